/-
  Plain laws: lists of numbers, tables.
-/
import Derived.Test.YtfndhpjedmopdaaGreatDoorLA
namespace Go.Proofs.YtfndhpjedmopdaaGreatDoor
set_option linter.unusedVariables false
set_option linter.unusedSimpArgs false
open Go Go.Sx
theorem ZeC {a b:Bool} (h:a=true↔b=true):a=b:=by cases a<;>cases b<;>simp_all
theorem Jq {P Q:Prop} (h:P↔Q):tr P=tr Q:=by rw [propext h]
def Inc (l:List Int):Prop:=∀ (k:Nat) (x y:Int),l[k]?=some x→l[k+1]?=some y→x<y
def Zg5 (l:List Int) (lo hi:Int):Prop:=∀ x∈l,lo≤x∧x≤hi
theorem Zjr (l:List Int) (lo hi:Int):allIn l lo hi=true↔Zg5 l lo hi:=by
  unfold allIn Zg5
  rw [List.all_eq_true]
  simp only [within_iff]
theorem ZaT (l:List Int):YK l=some (l.length:Int):=rfl
theorem Zie (l:List Int) (hl:Len l):JJ l=some (tr (Inc l)):=by
  unfold JJ
  have h4:l.length≤4611686018427387904:=hl
  by_cases h0:l.length=0
  · have:l=[]:=List.eq_nil_of_length_eq_zero h0
    subst this
    rw [ZdA (r:=true) (by rfl)]
    have h0:Inc []:=fun k x y h=>by simp at h
    rw [YS h0]
  have:=Zq9 (ρ:=Bool) 1 l.length (by omega) h4 (fun k=>∀ x y,l[k-1]?=some x→l[k]?=some y→x<y) (step:=fun v=>Y7 l v.1) (bad:=false) (good:=true)
    (fun k h1 h2 _=>by
      obtain ⟨x,hx⟩:∃ x,l[k-1]?=some x:=⟨_,List.getElem?_eq_getElem (by omega)⟩
      obtain ⟨y,hy⟩:∃ y,l[k]?=some y:=⟨_,List.getElem?_eq_getElem h2⟩
      have e1:IntKind.i64.wrap ((k:Int)-1)=((k-1:Nat):Int):=by rw [Jd (by omega) (by omega)];omega
      simp only [Y7,show (k:Int)<(l.length:Int) from by omega,if_true,e1,Zr,hx,hy,Option.bind_some]
      refine ⟨fun h=>?_,fun h=>?_⟩
      · have:=h x y rfl rfl
        rw [if_neg (by omega)]
      · rw [if_pos]
        rcases Int.lt_or_le x y with h' | h'
        · exact absurd (fun a b ha hb=>by injection ha with ha;injection hb with hb;subst ha;subst hb;exact h') h
        · exact h')
    (fun _=>by simp only [Y7,Int.lt_irrefl,if_false])
  refine (show Zu (fun v=>Y7 l v.1) ((1:Int),())=_ from this).trans ?_
  rw [ZmW]
  congr 1
  refine Jq ⟨fun h k x y hx hy=>?_,fun h j h1 h2 x y hx hy=>?_⟩
  · exact h (k+1) (by omega) (List.getElem?_eq_some_iff.1 hy).1 x y (by simpa using hx) hy
  · exact h (j-1) x y hx (by rw [show j-1+1=j by omega];exact hy)
def Zfq (l:List Int):Prop:=1≤l.length∧l.length≤4∧Zg5 l 0 100000∧Inc l
theorem ZiA (l:List Int) (hl:Len l):Zc6 l=some (tr (Zfq l)):=by
  unfold Zc6
  rw [ZaT,Option.bind_some,ZbQ,Option.bind_some,Zcp l _ _ hl,Option.bind_some,Zie l hl,Option.bind_some]
  have e:tr (Zfq l)=(within (l.length:Int) 1 4&&allIn l 0 100000&&tr (Inc l)):=by
    refine Zon ?_
    simp only [Bool.and_eq_true,within_iff,Zjr,VE,Zfq]
    exact ⟨fun ⟨⟨⟨a,b⟩,c⟩,d⟩=>⟨by omega,by omega,c,d⟩,fun ⟨a,b,c,d⟩=>⟨⟨⟨by omega,by omega⟩,c⟩,d⟩⟩
  rw [e]
  cases within (l.length:Int) 1 4<;>cases allIn l 0 100000<;>cases tr (Inc l)<;>rfl
theorem ZhU (l:List Int) (hl:Len l):Zck l=some (tr (Zfq l)):=by
  unfold Zck
  have h4:l.length≤4611686018427387904:=hl
  rw [ZaU hl (fun k x=>(0≤x∧x≤100000)∧(0<k→∀ y,l[k-1]?=some y→y<x)) (bad:=false) (good:=decide (1≤l.length∧l.length≤4))
    (fun k x hx hk _=>by
      simp only [Zay,show (k:Int)<(l.length:Int) from by omega,if_true,Zr,hx,Option.bind_some,Zd0]
      by_cases hw:within x 0 100000=true
      · rw [if_pos hw]
        by_cases h0:0<k
        · obtain ⟨y,hy⟩:∃ y,l[k-1]?=some y:=⟨_,List.getElem?_eq_getElem (by omega)⟩
          have e1:IntKind.i64.wrap ((k:Int)-1)=((k-1:Nat):Int):=by rw [Jd (by omega) (by omega)];omega
          rw [if_pos (by omega),e1,Zr,hy,Option.bind_some]
          refine ⟨fun h=>?_,fun h=>?_⟩
          · rw [if_neg (by have:=h.2 h0 y rfl;omega)]
          · rw [if_pos]
            rcases Int.lt_or_le y x with h' | h'
            · exact absurd ⟨(within_iff _ _ _).1 hw,fun _ z hz=>by injection hz with hz;subst hz;exact h'⟩ h
            · exact h'
        · rw [if_neg (by omega)]
          exact ⟨fun _=>rfl,fun h=>absurd ⟨(within_iff _ _ _).1 hw,fun h'=>absurd h' h0⟩ h⟩
      · rw [if_neg hw]
        exact ⟨fun h=>absurd ((within_iff _ _ _).2 h.1) hw,fun _=>rfl⟩)
    (fun _=>by
      simp only [Zay,Int.lt_irrefl,if_false]
      by_cases h1:1≤l.length
      · rw [if_pos (by omega)]
        congr 2
        rw [decide_eq_decide];omega
      · rw [if_neg (by omega)]
        simp [h1])]
  congr 1
  refine ZeC ?_
  rw [VE]
  by_cases h:Zgm l (fun k x=>(0≤x∧x≤100000)∧(0<k→∀ y,l[k-1]?=some y→y<x))
  · rw [VP h,decide_eq_true_eq]
    constructor
    · rintro ⟨h1,h2⟩
      refine ⟨h1,h2,fun x hx=>?_,fun k x y hx hy=>?_⟩
      · obtain ⟨k,hk⟩:=List.mem_iff_getElem?.1 hx
        exact (h k x hk).1
      · exact (h (k+1) y hy).2 (by omega) x (by simpa using hx)
    · intro hh
      exact ⟨hh.1,hh.2.1⟩
  · rw [QF h]
    constructor
    · intro hh;cases hh
    · intro hh
      refine absurd ?_ h
      intro k x hk
      refine ⟨hh.2.2.1 x (List.mem_of_getElem? hk),fun h0 y hy=>?_⟩
      exact hh.2.2.2 (k-1) y x hy (by rw [show k-1+1=k by omega];exact hk)
def Zew (t:Zt):Prop:=Zfq (Zt.Zfx t)∧Zfq (Zt.Loads t)∧(Zt.Values t).length=(Zt.Zfx t).length*(Zt.Loads t).length∧Zg5 (Zt.Values t) (-1000000) 1000000
def Zwg (t:Zt):Prop:=Len (Zt.Zfx t)∧Len (Zt.Loads t)∧Len (Zt.Values t)
theorem Zfq.mul {a b:List Int} (ha:Zfq a) (hb:Zfq b):a.length*b.length≤16:=by
  have h1:=ha.2.1
  have h2:=hb.2.1
  calc a.length*b.length≤4*4:=Nat.mul_le_mul h1 h2
    _=16:=rfl
theorem Zra {a b:List Int} (ha:Zfq a) (hb:Zfq b):IntKind.i64.wrap ((a.length:Int)*(b.length:Int))=((a.length*b.length:Nat):Int):=by
  have:=ha.mul hb
  have e:(a.length:Int)*(b.length:Int)=((a.length*b.length:Nat):Int):=by simp
  rw [e,Jd (by omega) (by omega)]
theorem Znn (t:Zt) (h:Zwg t):ZdC t=some (tr (Zew t)):=by
  unfold ZdC
  rw [ZiA _ h.1,Option.bind_some]
  by_cases h1:Zfq (Zt.Zfx t)
  · rw [if_pos (YS h1),ZiA _ h.2.1,Option.bind_some]
    by_cases h2:Zfq (Zt.Loads t)
    · rw [if_pos (YS h2),Zra h1 h2]
      by_cases h3:(Zt.Values t).length=(Zt.Zfx t).length*(Zt.Loads t).length
      · rw [if_pos (by rw [h3]),Zcp _ _ _ h.2.2,Option.bind_some]
        congr 1
        refine ZeC ?_
        rw [Zjr,VE]
        exact ⟨fun h4=>⟨h1,h2,h3,h4⟩,fun h4=>h4.2.2.2⟩
      · rw [if_neg (by omega),Yr (fun hh=>h3 hh.2.2.1)]
    · rw [if_neg (by rw [Yr h2];simp),Yr (fun hh=>h2 hh.2.1)]
  · rw [if_neg (by rw [Yr h1];simp),Yr (fun hh=>h1 hh.1)]
theorem Zm5 (t:Zt) (h:Zwg t):Zdy t=some (tr (Zew t)):=by
  unfold Zdy
  rw [ZhU _ h.1,Option.bind_some]
  by_cases h1:Zfq (Zt.Zfx t)
  · rw [if_pos (YS h1),ZhU _ h.2.1,Option.bind_some]
    by_cases h2:Zfq (Zt.Loads t)
    · rw [if_pos (YS h2),Zra h1 h2]
      by_cases h3:(Zt.Values t).length=(Zt.Zfx t).length*(Zt.Loads t).length
      · rw [if_pos (by rw [h3]),ZaU h.2.2 (fun k x=>-1000000≤x∧x≤1000000) (bad:=false) (good:=true)
          (fun k x hx hk _=>by
            simp only [ZaA,show (k:Int)<((Zt.Values t).length:Int) from by omega,if_true,Zr,hx,Option.bind_some,Zd0,within_iff]
            exact ⟨fun hh=>by rw [if_pos hh],fun hh=>by rw [if_neg hh]⟩)
          (fun _=>by simp only [ZaA,Int.lt_irrefl,if_false]),ZmW]
        congr 1
        refine Jq ⟨fun h4=>⟨h1,h2,h3,fun x hx=>?_⟩,fun h4 k x hx=>h4.2.2.2 x (List.mem_of_getElem? hx)⟩
        obtain ⟨k,hk⟩:=List.mem_iff_getElem?.1 hx
        exact h4 k x hk
      · rw [if_neg (by omega),Yr (fun hh=>h3 hh.2.2.1)]
    · rw [if_neg (by rw [Yr h2];simp),Yr (fun hh=>h2 hh.2.1)]
  · rw [if_neg (by rw [Yr h1];simp),Yr (fun hh=>h1 hh.1)]
theorem ZoA (x:Int) (l:List Int) (hl:Len (x::l)):XH (x::l)=some (l.foldl min x):=by
  unfold XH
  have h4:(x::l).length≤4611686018427387904:=hl
  have e1:¬(((x::l).length:Int)<1):=by simp only [List.length_cons];omega
  have e2:atI (x::l) (0:Int)=some x:=rfl
  rw [if_neg e1,e2,Option.bind_some]
  refine Qj l.length (fun k v=>v.1=(l.take k).foldl min x∧v.2.1=(((k+1:Nat)):Int)) _ ⟨by simp,rfl⟩ ?_ ?_
  · rintro k ⟨m,i,⟨⟩⟩ hk ⟨hm,hi⟩
    simp only at hm hi
    subst hm;subst hi
    have hx:l[k]?=some l[k]:=List.getElem?_eq_getElem hk
    have hx1:(x::l)[k+1]?=some l[k]:=by simp
    simp only [Xb,Zr,hx1,Option.bind_some,show ((k+1:Nat):Int)<((x::l).length:Int) from by simp;omega,if_true]
    refine .inl ⟨_,rfl,?_,?_⟩
    · rw [YD hx,List.foldl_append];rfl
    · simp only [List.length_cons] at h4
      show IntKind.i64.wrap (((k+1:Nat):Int)+1)=((k+1+1:Nat):Int)
      rw [Jd (by omega) (by omega)];omega
  · rintro ⟨m,i,⟨⟩⟩ ⟨hm,hi⟩
    simp only at hm hi
    subst hm;subst hi
    rw [List.take_length]
    simp only [Xb,show ¬(((l.length+1:Nat):Int)<((x::l).length:Int)) from by simp,if_false]
theorem Zj9 (x:Int) (l:List Int):l.foldl min x<0↔x<0∨∃ y∈l,y<0:=by
  induction l generalizing x with
  | nil=>simp
  | cons y r ih =>
    simp only [List.foldl_cons,ih,List.mem_cons,exists_eq_or_imp]
    rw [show min x y<0↔x<0∨y<0 by omega,or_assoc]
def ZeW (l:List Zt) (pos:Bool):Prop:=l.length=2∧∀ t∈l,Zew t∧(pos=true→∀ v∈Zt.Values t,0≤v)
theorem Zew.some {t:Zt} (h:Zew t):∃ x l,Zt.Values t=x::l:=by
  have h1:=h.1.1
  have h2:=h.2.1.1
  have h3:=h.2.2.1
  have:1*1≤(Zt.Zfx t).length*(Zt.Loads t).length:=Nat.mul_le_mul h1 h2
  cases hv:Zt.Values t with
  | nil=>rw [hv] at h3;simp at h3;omega
  | cons x l=>exact ⟨x,l,rfl⟩
theorem Zif (t:Zt) (pos:Bool) (h:Zwg t):QE t pos=some (! tr (Zew t∧(pos=true→∀ v∈Zt.Values t,0≤v))):=by
  unfold QE
  rw [Znn _ h,Option.bind_some]
  by_cases h1:Zew t
  · rw [if_pos (YS h1)]
    cases pos
    · rw [if_neg (by simp),YS ⟨h1,fun e=>by cases e⟩];rfl
    · obtain ⟨x,l,hv⟩:=h1.some
      have hlen:=h.2.2
      rw [if_pos rfl,hv]
      rw [hv] at hlen
      rw [ZoA x l hlen,Option.bind_some]
      congr 1
      refine ZeC ?_
      rw [decide_eq_true_eq,Zj9,Bool.not_eq_true',←Bool.not_eq_true,VE]
      constructor
      · rintro (hh | ⟨y,hy,hh⟩) ⟨_,hall⟩
        · have:=hall rfl x (by simp);omega
        · have:=hall rfl y (by simp [hy]);omega
      · intro hh
        apply Classical.byContradiction
        intro hn
        refine hh ⟨h1,fun _ v hvm=>?_⟩
        rcases List.mem_cons.1 hvm with rfl | hvm
        · exact Int.not_lt.1 fun hlt=>hn (.inl hlt)
        · exact Int.not_lt.1 fun hlt=>hn (.inr ⟨v,hvm,hlt⟩)
  · rw [if_neg (by rw [Yr h1];simp),Yr (fun hh=>h1 hh.1)];rfl
def Zv2 (l:List Zt):Prop:=Len l∧∀ t∈l,Zwg t
theorem ZeG (l:List Zt) (pos:Bool) (h:Zv2 l):Jw l pos=some (tr (ZeW l pos)):=by
  unfold Jw
  by_cases h2:l.length=2
  · rw [if_pos (by omega),QC h.1 (fun t=>! tr (Zew t∧(pos=true→∀ v∈Zt.Values t,0≤v))) (fun t ht=>Zif t pos (h.2 t ht)),Option.bind_some]
    congr 1
    refine ZeC ?_
    rw [Bool.not_eq_true',List.any_eq_false,VE]
    simp only [Bool.not_eq_true',Bool.not_eq_false,VE,Bool.not_eq_true]
    exact ⟨fun hh=>⟨h2,hh⟩,fun hh=>hh.2⟩
  · rw [if_neg (by omega),Yr (fun hh=>h2 hh.1)]
end Go.Proofs.YtfndhpjedmopdaaGreatDoor
/-
  Plain laws: pins, arcs, cells.
-/
namespace Go.Proofs.YtfndhpjedmopdaaGreatDoor
set_option linter.unusedVariables false
set_option linter.unusedSimpArgs false
open Go Go.Sx
theorem Zh8 {α τ ρ:Type} {l:List α} (pk:Nat→τ) (P:Nat→α→Prop) {step:τ→Option (τ ⊕ ρ)} {bad good:ρ}
    (hs:∀ (k:Nat) (x:α),l[k]?=some x→k<l.length→(∀ (j:Nat) (y:α),j<k→l[j]?=some y→P j y)→(P k x→step (pk k)=some (.inl (pk (k+1))))∧(¬P k x→step (pk k)=some (.inr bad)))
    (hx:Zgm l P→step (pk l.length)=some (.inr good)):Zu step (pk 0)=some (sel (Zgm l P) good bad):=by
  refine Qj l.length (fun k v=>v=pk k∧∀ (j:Nat) (y:α),j<k→l[j]?=some y→P j y) _ ⟨rfl,fun j y hj=>by omega⟩ ?_ ?_
  · rintro k v hk ⟨rfl,hS⟩
    have hx:l[k]?=some l[k]:=List.getElem?_eq_getElem hk
    obtain ⟨h1,h2⟩:=hs k _ hx hk hS
    by_cases hP:P k l[k]
    · refine .inl ⟨_,h1 hP,rfl,fun j y hj hy=>?_⟩
      by_cases hjk:j<k
      · exact hS j y hjk hy
      · have:j=k:=by omega
        subst this
        rw [hx] at hy;injection hy with hy;subst hy
        exact hP
    · right
      rw [h2 hP,QF (fun h=>hP (h k _ hx))]
  · rintro v ⟨rfl,hS⟩
    have hA:Zgm l P:=fun k x hk=>hS k x (List.getElem?_eq_some_iff.1 hk).1 hk
    rw [hx hA,VP hA]
theorem YH {α τ ρ:Type} {l:List α} (pk:Nat→τ) {step:τ→Option (τ ⊕ ρ)} {good:ρ}
    (hs:∀ (k:Nat) (x:α),l[k]?=some x→k<l.length→step (pk k)=some (.inl (pk (k+1)))) (hx:step (pk l.length)=some (.inr good)):Zu step (pk 0)=some good:=by
  have:=Zh8 (l:=l) pk (fun _ _=>True) (step:=step) (bad:=good) (good:=good) (fun k x h1 h2 _=>⟨fun _=>hs k x h1 h2,fun h=>absurd trivial h⟩) (fun _=>hx)
  rw [this,VP (show Zgm l (fun _ _=>True) from fun _ _ _=>trivial)]
theorem ZmU {ρ:Type} (n:Nat) (hn:n≤4611686018427387904) (P:Nat→Prop) {step:Int×Unit→Option ((Int×Unit) ⊕ ρ)} {bad good:ρ}
    (hs:∀ k:Nat,k<n→(P k→step ((k:Int),())=some (.inl (IntKind.i64.wrap ((k:Int)+1),())))∧(¬P k→step ((k:Int),())=some (.inr bad)))
    (hx:(∀ j,j<n→P j)→step ((n:Int),())=some (.inr good)):Zu step ((0:Int),())=some (sel (∀ j,j<n→P j) good bad):=by
  have:=Zq9 (ρ:=ρ) 0 n (by omega) hn P (step:=step) (bad:=bad) (good:=good) (fun k _ h _=>hs k h) (fun h=>hx (fun j hj=>h j (by omega) hj))
  refine (show Zu step ((0:Int),())=_ from this).trans ?_
  congr 1
  have e:(∀ j,0≤j→j<n→P j)↔(∀ j,j<n→P j):=⟨fun h j hj=>h j (by omega) hj,fun h j _ hj=>h j hj⟩
  rw [propext e]
theorem XJ {t:Ty} {l:List t.den} (h:sm (.sl t) l):Len l:=by
  have h1:(l.length:Int)≤1048576:=h.1
  show l.length≤4611686018427387904
  omega
theorem Zhl {s:List UInt8} (h:sm .str s):s.length≤4611686018427387904:=by
  have h1:(s.length:Int)≤1048576:=h
  omega
theorem Zrg {t:Ty} {l:List t.den} (h:sm (.sl t) l) {x:t.den} (hx:x∈l):sm t x:=h.2 x hx
theorem Zag {t:Ty} {l:List t.den} (h:sm (.sl t) l) {k:Nat} {x:t.den} (hx:l[k]?=some x):sm t x:=h.2 x (List.mem_of_getElem? hx)
theorem Zm {t:Ty} {l:List t.den} (h:sm (.sl t) l):l.length≤1048576:=by
  have h1:(l.length:Int)≤1048576:=h.1
  omega
theorem ZrZ {t:Zt} (h:sm Yh t):Zwg t:=⟨XJ (t:=.int .i64) h.1,XJ (t:=.int .i64) h.2.1,XJ (t:=.int .i64) h.2.2.1⟩
theorem ZgI {l:List Zt} (h:sm (.sl Yh) l):Zv2 l:=⟨XJ h,fun t ht=>ZrZ (Zrg h ht)⟩
theorem Zi2 (t:Zt) (h:Zwg t):∃ r,Zas t=some r∧(Zew t→r.2=0∧(r.1.1<0↔∃ v∈Zt.Values t,v<0))∧(¬Zew t→r.2=1):=by
  unfold Zas
  rw [Zm5 _ h,Option.bind_some]
  by_cases h1:Zew t
  · rw [if_pos (YS h1)]
    obtain ⟨x,l,hv⟩:=h1.some
    have h4:(x::l).length≤4611686018427387904:=by rw [←hv];exact h.2.2
    have e2:atI (Zt.Values t) (0:Int)=some x:=by rw [hv];rfl
    rw [e2,Option.bind_some]
    have:=YH (l:=l) (ρ:=ZoO×Int) (fun k=>((((k+1:Nat)):Int),(l.take k).foldl min x,(l.take k).foldl max x,())) (step:=fun v=>X0 t v.1 v.2.1 v.2.2.1) (good:=((l.foldl min x,l.foldl max x,()),0))
      (fun k y hy hk=>by
        have hx1:(x::l)[k+1]?=some y:=by simpa using hy
        simp only [List.length_cons] at h4
        simp only [X0,hv,Zr,hx1,Option.bind_some,show ((k+1:Nat):Int)<((x::l).length:Int) from by simp;omega,if_true]
        rw [YD hy,List.foldl_append,List.foldl_append,Jd (by omega) (by omega)]
        rfl)
      (by
        simp only [X0,hv,List.take_length,show ¬(((l.length+1:Nat):Int)<((x::l).length:Int)) from by simp,if_false])
    refine ⟨_,this,fun _=>⟨rfl,?_⟩,fun hn=>absurd h1 hn⟩
    rw [hv]
    refine (Zj9 x l).trans ?_
    simp
  · rw [if_neg (by rw [Yr h1];simp)]
    exact ⟨_,rfl,fun hn=>absurd hn h1,fun _=>rfl⟩
theorem ZeK (l:List Zt) (pos:Bool) (h:Zv2 l):Yz l pos=some (tr (ZeW l pos)):=by
  unfold Yz
  by_cases h2:l.length=2
  · rw [if_pos (by omega),ZaU h.1 (fun k t=>Zew t∧(pos=true→∀ v∈Zt.Values t,0≤v)) (bad:=false) (good:=true)
      (fun k t hx hk _=>by
        obtain ⟨r,hr,hr1,hr2⟩:=Zi2 t (h.2 t (List.mem_of_getElem? hx))
        simp only [Jm,show (k:Int)<2 from by omega,if_true,Zr,hx,Option.bind_some,hr]
        by_cases ht:Zew t
        · obtain ⟨e1,e2⟩:=hr1 ht
          rw [if_pos e1]
          cases pos
          · simp only [Bool.false_eq_true,if_false]
            exact ⟨fun _=>trivial,fun hn=>absurd ⟨ht,fun e=>by cases e⟩ hn⟩
          · simp only [if_true]
            refine ⟨fun hh=>?_,fun hn=>?_⟩
            · rw [if_neg]
              intro hlt
              obtain ⟨v,hv,hv0⟩:=e2.1 hlt
              have:=hh.2 trivial v hv
              omega
            · rw [if_pos]
              apply Classical.byContradiction
              intro hlt
              refine hn ⟨ht,fun _ v hv=>?_⟩
              exact Int.not_lt.1 fun hv0=>hlt (e2.2 ⟨v,hv,hv0⟩)
        · have e1:=hr2 ht
          rw [if_neg (by rw [e1];decide)]
          exact ⟨fun hh=>absurd hh.1 ht,fun _=>rfl⟩)
      (fun _=>by simp only [Jm,h2];rfl),ZmW]
    congr 1
    refine Jq ⟨fun hh=>⟨h2,fun t ht=>?_⟩,fun hh k t hk=>hh.2 t (List.mem_of_getElem? hk)⟩
    obtain ⟨k,hk⟩:=List.mem_iff_getElem?.1 ht
    exact hh k t hk
  · rw [if_neg (by omega),Yr (fun hh=>h2 hh.1)]
def Ze2 (l:List Yv):List (List UInt8):=l.map Yv.Name
def ZlK (l:List Yv):Nat:=l.countP (fun p=>Yv.Clock p)
def Zqb (n k:Nat) (p:Yv):Prop:=(0≤Yv.Cap p∧Yv.Cap p≤500)∧(k+1=n→Yv.Dir p=2∧Yv.Cap p=0∧Yv.Clock p=false)∧(k+1<n→Yv.Dir p=1)
def ZiP (l:List Yv):Prop:=2≤l.length∧l.length≤5∧Jb (Ze2 l) l.length∧Zgm l (Zqb l.length)
theorem Zmw (l:List Yv) (h:sm (.sl Je) l):Zdj l=some (tr (ZiP l)):=by
  unfold Zdj
  have hs:=Zm h
  have:=Zh8 (l:=l) (ρ:=Bool) (fun k=>((Ze2 l).take k,(k:Int),())) (Zqb l.length) (step:=fun v=>QW l v.1 v.2.1) (bad:=false) (good:=tr (2≤l.length∧l.length≤5∧Jb (Ze2 l) l.length))
    (fun k p hx hk _=>by
      have hn:(Ze2 l)[k]?=some (Yv.Name p):=by simp [Ze2,hx]
      have e1:IntKind.i64.wrap ((l.length:Int)-1)=((l.length-1:Nat):Int):=by rw [Jd (by omega) (by omega)];omega
      simp only [QW,show (k:Int)<(l.length:Int) from by omega,if_true,Zr,hx,Option.bind_some,e1]
      rw [Zi (by simp only [List.length_take,List.length_singleton,Ze2,List.length_map];omega),YD hn,Jd (by omega) (by omega)]
      unfold Zqb
      by_cases hlast:(k:Int)=((l.length-1:Nat):Int)
      · rw [if_pos hlast]
        have hk1:k+1=l.length:=by omega
        constructor
        · rintro ⟨_,h2,_⟩
          obtain ⟨a,b,c⟩:=h2 hk1
          rw [if_pos a,if_pos b,if_neg (by rw [c];simp)]
          rfl
        · intro hh
          split
          · split
            · split
              · rfl
              · rename_i a b c
                exact absurd ⟨by omega,fun _=>⟨a,b,by simpa using c⟩,fun h'=>by omega⟩ hh
            · rfl
          · rfl
      · rw [if_neg hlast,ZbQ]
        have hk1:k+1<l.length:=by omega
        simp only [Option.bind_some,within_iff]
        constructor
        · rintro ⟨h1,_,h3⟩
          rw [if_pos (h3 hk1),if_pos h1]
          rfl
        · intro hh
          split
          · split
            · rename_i a b
              exact absurd ⟨b,fun h'=>by omega,fun _=>a⟩ hh
            · rfl
          · rfl)
    (fun hA=>by
      have e0:(Ze2 l).take l.length=Ze2 l:=by rw [show l.length=(Ze2 l).length by simp [Ze2],List.take_length]
      simp only [QW,Int.lt_irrefl,if_false,e0,ZbQ,Option.bind_some,show Q8 l=some (l.length:Int) from rfl]
      have hlen:(Ze2 l).length=l.length:=by simp [Ze2]
      by_cases hw:within (l.length:Int) 2 5=true
      · rw [if_pos hw,ZbC _ (by rw [hlen];omega),Option.bind_some,hlen]
        rw [within_iff] at hw
        congr 2
        exact Jq ⟨fun hh=>⟨by omega,by omega,hh⟩,fun hh=>hh.2.2⟩
      · rw [if_neg hw,Yr]
        intro hh
        exact hw ((within_iff _ _ _).2 (by omega)))
  refine (show Zu (fun v=>QW l v.1 v.2.1) (([]:List (List UInt8)),(0:Int),())=_ from this).trans ?_
  congr 1
  refine ZeC ?_
  rw [VE]
  by_cases hA:Zgm l (Zqb l.length)
  · rw [VP hA,VE]
    exact ⟨fun hh=>⟨hh.1,hh.2.1,hh.2.2,hA⟩,fun hh=>⟨hh.1,hh.2.1,hh.2.2.1⟩⟩
  · rw [QF hA]
    exact ⟨fun hh=>(by cases hh),fun hh=>absurd hh.2.2.2 hA⟩
end Go.Proofs.YtfndhpjedmopdaaGreatDoor
/-
  Plain laws: pins by the reference; arcs.
-/
namespace Go.Proofs.YtfndhpjedmopdaaGreatDoor
set_option linter.unusedVariables false
set_option linter.unusedSimpArgs false
open Go Go.Sx
theorem Zvm {n:Nat} (h:n≤1048576) (h1:1≤n):IntKind.i64.wrap ((n:Int)-1)=((n-1:Nat):Int):=by rw [Jd (by omega) (by omega)];omega
theorem Zah {n:Nat} (h:n≤1048576):IntKind.i64.wrap ((n:Int)+1)=((n+1:Nat):Int):=by rw [Jd (by omega) (by omega)];omega
theorem Ziy {l:List Yv} {k:Nat} {s:List UInt8}:s ∉ (Ze2 l).take k↔∀ (j:Nat) (q:Yv),j<k→l[j]?=some q→Yv.Name q≠s:=by
  constructor
  · intro h j q hj hq e
    refine h (List.mem_iff_getElem?.2 ⟨j,?_⟩)
    rw [List.getElem?_take,if_pos hj]
    simp [Ze2,hq,e]
  · intro h hm
    obtain ⟨j,hj⟩:=List.mem_iff_getElem?.1 hm
    rw [List.getElem?_take] at hj
    split at hj
    · rename_i hjk
      simp only [Ze2,List.getElem?_map,Option.map_eq_some_iff] at hj
      obtain ⟨q,hq,e⟩:=hj
      exact h j q hjk hq e
    · cases hj
theorem Znc (c:Zh) (h:sm (.sl Je) (Zh.YC c)):Zdp c=some (sel (ZiP (Zh.YC c)) ((ZlK (Zh.YC c):Int),true) ((0:Int),false)):=by
  unfold Zdp
  have hs:=Zm h
  by_cases h2:((Zh.YC c).length:Int)<2
  · rw [if_pos h2,QF (fun hh=>by have:=hh.1;omega)]
  by_cases h5:(5:Int)<((Zh.YC c).length:Int)
  · rw [if_neg h2,if_pos h5,QF (fun hh=>by have:=hh.2.1;omega)]
  rw [if_neg h2,if_neg h5]
  have e1:IntKind.i64.wrap (((Zh.YC c).length:Int)-1)=(((Zh.YC c).length-1:Nat):Int):=Zvm hs (by omega)
  have:=Zh8 (l:=Zh.YC c) (ρ:=Int×Bool) (fun k=>((((Zh.YC c).take k).countP (fun p=>Yv.Clock p):Int),(k:Int),()))
    (fun k p=>(Zbf (Yv.Name p)=true∧∀ (j:Nat) (q:Yv),j<k→(Zh.YC c)[j]?=some q→Yv.Name q≠Yv.Name p)∧Zqb (Zh.YC c).length k p) (step:=fun v=>QS c v.1 v.2.1) (bad:=((0:Int),false)) (good:=((ZlK (Zh.YC c):Int),true))
    (fun k p hx hk _=>by
      have hcnt:((Zh.YC c).take k).countP (fun p=>Yv.Clock p)≤5:=by
        have h1:=List.countP_le_length (p:=fun p=>Yv.Clock p) (l:=(Zh.YC c).take k)
        rw [List.length_take] at h1;omega
      have hnext:((Zh.YC c).take (k+1)).countP (fun p=>Yv.Clock p)=((Zh.YC c).take k).countP (fun p=>Yv.Clock p)+if Yv.Clock p=true then 1 else 0:=by
        rw [YD hx,List.countP_append];simp [List.countP_cons]
      have hname:(Yv.Name p).length≤4611686018427387904:=Zhl (Zag h hx).1
      have rest:∀ (v:Int),XU c v (k:Int) p (k:Int)=sel (Zbf (Yv.Name p)=true∧Zqb (Zh.YC c).length k p) (some (Sum.inr (Sum.inl (if Yv.Clock p=true then IntKind.i64.wrap (v+1) else v,((k+1:Nat):Int),())))) (some (Sum.inr (Sum.inr (0,false)))):=by
        intro v
        simp only [XU,Int.lt_irrefl,if_false,ZdJ _ hname,Zd0,Option.bind_some,e1,Zah (show k≤1048576 by omega),within_iff]
        unfold Zqb
        by_cases hn:Zbf (Yv.Name p)=true
        · by_cases hcap:0≤Yv.Cap p∧Yv.Cap p≤500
          · by_cases hlast:k+1=(Zh.YC c).length
            · have e2:(k:Int)=(((Zh.YC c).length-1:Nat):Int):=by omega
              have e3:¬((k:Int)<(((Zh.YC c).length-1:Nat):Int)):=by omega
              have e4:¬(k+1<(Zh.YC c).length):=by omega
              rw [if_pos hn,if_pos hcap,if_pos e2]
              by_cases a:Yv.Dir p=2
              · by_cases b:Yv.Cap p=0
                · by_cases d:Yv.Clock p=true
                  · rw [if_pos a,if_pos b,if_pos d,QF]
                    rintro ⟨_,_,h',_⟩
                    have:=(h' hlast).2.2
                    rw [d] at this;cases this
                  · rw [if_pos a,if_pos b,if_neg d,if_neg e3,if_neg d,VP ⟨hn,hcap,fun _=>⟨a,b,by simpa using d⟩,fun h'=>absurd h' e4⟩]
                    simp [d]
                · rw [if_pos a,if_neg b,QF]
                  rintro ⟨_,_,h',_⟩
                  exact b (h' hlast).2.1
              · rw [if_neg a,QF]
                rintro ⟨_,_,h',_⟩
                exact a (h' hlast).1
            · have e2:¬(k:Int)=(((Zh.YC c).length-1:Nat):Int):=by omega
              have e3:(k:Int)<(((Zh.YC c).length-1:Nat):Int):=by omega
              have e4:k+1<(Zh.YC c).length:=by omega
              rw [if_pos hn,if_pos hcap,if_neg e2,if_pos e3]
              by_cases a:Yv.Dir p=1
              · rw [if_pos a,VP ⟨hn,hcap,fun h'=>absurd h' hlast,fun _=>a⟩]
                by_cases d:Yv.Clock p=true
                · rw [if_pos d,if_pos d]
                · rw [if_neg d,if_neg d]
              · rw [if_neg a,QF]
                rintro ⟨_,_,_,h'⟩
                exact a (h' e4)
          · rw [if_pos hn,if_neg hcap,QF (fun hh=>hcap hh.2.1)]
        · rw [if_neg hn,QF (fun hh=>hn hh.1)]
      have inner:∀ (v:Int) (good:(Int×Int×Unit) ⊕ (Int×Bool)),((∀ (j:Nat) (q:Yv),j<k→(Zh.YC c)[j]?=some q→Yv.Name q≠Yv.Name p)→XU c v (k:Int) p (k:Int)=some (.inr good))→
          Zu (fun v'=>XU c v (k:Int) p v'.1) ((0:Int),())=some (sel (∀ j,j<k→∀ q,(Zh.YC c)[j]?=some q→Yv.Name q≠Yv.Name p) good (.inr (0,false))):=by
        intro v good hg
        refine ZmU k (by omega) (fun j=>∀ q,(Zh.YC c)[j]?=some q→Yv.Name q≠Yv.Name p) (fun j hj=>?_) (fun hh=>hg (fun j q hj hq=>hh j hj q hq))
        obtain ⟨q,hq⟩:∃ q,(Zh.YC c)[j]?=some q:=⟨_,List.getElem?_eq_getElem (by omega)⟩
        simp only [XU,show (j:Int)<(k:Int) from by omega,if_true,Zr,hq,Option.bind_some]
        refine ⟨fun hh=>by rw [if_neg (hh q rfl)],fun hh=>?_⟩
        rw [if_pos]
        apply Classical.byContradiction
        intro hne
        exact hh (fun q' hq'=>by injection hq' with hq';subst hq';exact hne)
      simp only [QS,show (k:Int)<((Zh.YC c).length:Int) from by omega,if_true,Zr,hx,Option.bind_some]
      constructor
      · rintro ⟨⟨a,b⟩,d⟩
        rw [inner _ (.inl (((((Zh.YC c).take (k+1)).countP (fun p=>Yv.Clock p):Nat):Int),((k+1:Nat):Int),())) (fun _=>by
          rw [rest,VP ⟨a,d⟩,hnext]
          by_cases hc:Yv.Clock p=true
          · rw [if_pos hc,if_pos hc,Zah (by omega)]
          · rw [if_neg hc,if_neg hc];rfl),VP (fun j hj q hq=>b j q hj hq)]
      · intro hh
        rw [inner _ (.inr (0,false)) (fun hn=>by
          rw [rest,QF (fun h'=>hh ⟨⟨h'.1,hn⟩,h'.2⟩)])]
        by_cases hP:∀ j,j<k→∀ q,(Zh.YC c)[j]?=some q→Yv.Name q≠Yv.Name p
        · rw [VP hP]
        · rw [QF hP])
    (fun _=>by simp only [QS,Int.lt_irrefl,if_false,List.take_length];rfl)
  refine (show Zu (fun v=>QS c v.1 v.2.1) ((0:Int),(0:Int),())=_ from this).trans ?_
  congr 1
  have e:Zgm (Zh.YC c) (fun k p=>(Zbf (Yv.Name p)=true∧∀ (j:Nat) (q:Yv),j<k→(Zh.YC c)[j]?=some q→Yv.Name q≠Yv.Name p)∧Zqb (Zh.YC c).length k p)↔ZiP (Zh.YC c):=by
    constructor
    · intro hA
      refine ⟨by omega,by omega,fun j s hj hs'=>?_,fun k p hp=>(hA k p hp).2⟩
      simp only [Ze2,List.getElem?_map,Option.map_eq_some_iff] at hs'
      obtain ⟨q,hq,rfl⟩:=hs'
      exact ⟨(hA j q hq).1.1,Ziy.2 (hA j q hq).1.2⟩
    · intro hh k p hp
      have hk:=(List.getElem?_eq_some_iff.1 hp).1
      have hn:=hh.2.2.1 k (Yv.Name p) hk (by simp [Ze2,hp])
      exact ⟨⟨hn.1,Ziy.1 hn.2⟩,hh.2.2.2 k p hp⟩
  rw [propext e]
end Go.Proofs.YtfndhpjedmopdaaGreatDoor
/-
  Plain laws: arcs.
-/
namespace Go.Proofs.YtfndhpjedmopdaaGreatDoor
set_option linter.unusedVariables false
set_option linter.unusedSimpArgs false
open Go Go.Sx
def Zpl (l:List Yv) (i:Int):Bool:=match l[i.toNat]? with
  | some p=>Yv.Clock p
  | none=>false
def Zk2 (c:Zh) (a:ZM):Prop :=
  (0≤ZM.From a∧ZM.From a≤((Zh.YC c).length:Int)-2)∧(0≤ZM.To a∧ZM.To a≤((Zh.YC c).length:Int)-1)∧
  ((ZM.Kind a=1∧Zpl (Zh.YC c) (ZM.From a)=false∧ZM.To a=((Zh.YC c).length:Int)-1∧(1≤ZM.ZcL a∧ZM.ZcL a≤3)∧ZeW (ZM.Delay a) true∧ZeW (ZM.Zhj a) true)∨
   ((ZM.Kind a=2∨ZM.Kind a=3)∧Zpl (Zh.YC c) (ZM.From a)=true∧ZM.To a=((Zh.YC c).length:Int)-1∧ZM.ZcL a=0∧ZeW (ZM.Delay a) true∧ZeW (ZM.Zhj a) true)∨
   ((ZM.Kind a=4∨ZM.Kind a=5)∧Zpl (Zh.YC c) (ZM.From a)=true∧ZM.To a<((Zh.YC c).length:Int)-1∧Zpl (Zh.YC c) (ZM.To a)=false∧ZM.ZcL a=0∧ZeW (ZM.Delay a) false∧(ZM.Zhj a).length=0))
theorem Zk2.kind {c:Zh} {a:ZM} (h:Zk2 c a):1≤ZM.Kind a∧ZM.Kind a≤5:=by
  rcases h.2.2 with h | h | h
  · have:=h.1;omega
  · have:=h.1;omega
  · have:=h.1;omega
theorem Zwv {P Q:Prop} {m:Option Bool} (hm:m=some (tr Q)):(if tr P=true then m else some false)=some (tr (P∧Q)):=by
  by_cases h:P
  · rw [if_pos (YS h),hm];congr 1;exact Jq ⟨fun q=>⟨h,q⟩,fun q=>q.2⟩
  · rw [if_neg (by rw [Yr h];simp),Yr (fun q=>h q.1)]
theorem YG {P Q:Prop} {_:Decidable P} {m:Option Bool} (hm:P→m=some (tr Q)):(if P then m else some false)=some (tr (P∧Q)):=by
  by_cases h:P
  · rw [if_pos h,hm h];congr 1;exact Jq ⟨fun q=>⟨h,q⟩,fun q=>q.2⟩
  · rw [if_neg h,Yr (fun q=>h q.1)]
theorem ZgK {P Q:Prop} {_:Decidable P} {m:Option Bool} (hm:¬P→m=some (tr Q)):(if P then some false else m)=some (tr (¬P∧Q)):=by
  by_cases h:P
  · rw [if_pos h,Yr (fun q=>q.1 h)]
  · rw [if_neg h,hm h];congr 1;exact Jq ⟨fun q=>⟨h,q⟩,fun q=>q.2⟩
theorem ZdR {P:Prop} {b:Bool} (h:b=true↔P):some b=some (tr P):=by rw [Zon h]
theorem Zaf {m:Option Bool} {P Q:Prop} (h:m=some (tr P)) (hpq:P↔Q):m=some (tr Q):=by rw [h,propext hpq]
theorem Zk9 {Q:Prop} (h:¬Q):(some false:Option Bool)=some (tr Q):=by rw [Yr h]
theorem Zd5 {P:Prop} {m:Option Bool} (h:m=some (tr P)):(m.bind fun b=>some b)=some (tr P):=by rw [h];rfl
theorem Xp {P Q:Prop} {m m2:Option Bool} (h:m=some (tr P)) (h2:P→m2=some (tr Q)):(m.bind fun b=>if b=true then m2 else some false)=some (tr (P∧Q)):=by
  rw [h,Option.bind_some]
  by_cases hp:P
  · rw [if_pos (YS hp),h2 hp];congr 1;exact Jq ⟨fun q=>⟨hp,q⟩,fun q=>q.2⟩
  · rw [if_neg (by rw [Yr hp];simp),Yr (fun q=>hp q.1)]
theorem Zbs (n a b:Int):Ye n a b=some (tr (a≤n∧n≤b)):=by rw [Zd0];exact ZdR (within_iff _ _ _)
theorem Zby (n a b:Int):Yo n a b=some (tr (a≤n∧n≤b)):=by rw [ZbQ];exact ZdR (within_iff _ _ _)
theorem Ztx {l:List Yv} {i:Int} (h0:0≤i) (h1:i<l.length):∃ p,atI l i=some p∧Zpl l i=Yv.Clock p:=by
  obtain ⟨p,h2,h3⟩:=ZsH h0 h1
  exact ⟨p,h2,by simp [Zpl,h3]⟩
theorem Znw (c:Zh) (a:ZM) (hp:sm (.sl Je) (Zh.YC c)) (hd:sm (.sl Yh) (ZM.Delay a)) (hw:sm (.sl Yh) (ZM.Zhj a)) (h2:2≤(Zh.YC c).length):Zet c a=some (tr (Zk2 c a)):=by
  unfold Zet
  have hs:=Zm hp
  have e1:IntKind.i64.wrap (((Zh.YC c).length:Int)-1)=((Zh.YC c).length:Int)-1:=Jd (by omega) (by omega)
  have e2:IntKind.i64.wrap (((Zh.YC c).length:Int)-1-1)=((Zh.YC c).length:Int)-2:=by rw [Jd (by omega) (by omega)];omega
  rw [e1,e2]
  refine Zaf (Xp (Zbs _ _ _) (fun hF=>Xp (Zbs _ _ _) (fun hT=>?_))) (Q:=Zk2 c a) (P:=(0≤ZM.From a∧ZM.From a≤((Zh.YC c).length:Int)-2)∧(0≤ZM.To a∧ZM.To a≤((Zh.YC c).length:Int)-1)∧Zk2 c a) ⟨fun hh=>hh.2.2,fun hh=>⟨hh.1,hh.2.1,hh⟩⟩
  obtain ⟨p,hp1,hp2⟩:=Ztx (l:=Zh.YC c) hF.1 (by omega)
  rw [hp1,Option.bind_some]
  have hdl:=ZgI hd
  have hsl:=ZgI hw
  have tt:∀ b,(Yz (ZM.Delay a) b).bind (fun x=>if x=true then (Yz (ZM.Zhj a) b).bind (fun y=>some y) else some false)=some (tr (ZeW (ZM.Delay a) b∧ZeW (ZM.Zhj a) b)):=fun b=>Xp (ZeK _ _ hdl) (fun _=>Zd5 (ZeK _ _ hsl))
  have tz:(Yz (ZM.Delay a) false).bind (fun x=>if x=true then some (Decidable.decide (((ZM.Zhj a).length:Int)=(0:Int))) else some false)=some (tr (ZeW (ZM.Delay a) false∧(ZM.Zhj a).length=0)):=Xp (ZeK _ _ hdl) (fun _=>ZdR (by rw [decide_eq_true_eq];omega))
  unfold Zk2
  rw [hp2]
  by_cases k1:ZM.Kind a=1
  · simp only [k1,if_true]
    refine Zaf (ZgK (fun hc=>YG (fun hl=>Xp (Zbs _ _ _) (fun _=>tt true)))) ?_
    grind
  by_cases k2:ZM.Kind a=2
  · simp only [k2,if_true,Int.reduceEq,if_false]
    refine Zaf (YG (fun hc=>YG (fun hl=>YG (fun _=>tt true)))) ?_
    grind
  by_cases k3:ZM.Kind a=3
  · simp only [k3,if_true,Int.reduceEq,if_false]
    refine Zaf (YG (fun hc=>YG (fun hl=>YG (fun _=>tt true)))) ?_
    grind
  have chk:(if Yv.Clock p=true then (if ZM.To a<((Zh.YC c).length:Int)-1 then (atI (Zh.YC c) (ZM.To a)).bind (fun x1=>if Yv.Clock x1=true then some false else if ZM.ZcL a=0 then (Yz (ZM.Delay a) false).bind (fun x=>if x=true then some (Decidable.decide (((ZM.Zhj a).length:Int)=(0:Int))) else some false) else some false) else some false) else some false) =
      some (tr (Yv.Clock p=true∧ZM.To a<((Zh.YC c).length:Int)-1∧Zpl (Zh.YC c) (ZM.To a)=false∧ZM.ZcL a=0∧ZeW (ZM.Delay a) false∧(ZM.Zhj a).length=0)):=by
    refine YG (fun _=>YG (fun hl=>?_))
    obtain ⟨q,hq1,hq2⟩:=Ztx (l:=Zh.YC c) hT.1 (by omega)
    rw [hq1,Option.bind_some,hq2]
    refine Zaf (ZgK (fun _=>YG (fun _=>tz))) ?_
    simp only [Bool.not_eq_true]
  by_cases k4:ZM.Kind a=4
  · simp only [k4,if_true,Int.reduceEq,if_false]
    refine Zaf chk ?_
    grind
  by_cases k5:ZM.Kind a=5
  · simp only [k5,if_true,Int.reduceEq,if_false]
    refine Zaf chk ?_
    grind
  · simp only [k1,k2,k3,k4,k5,if_false]
    refine Zk9 ?_
    grind
def ZhT (l:List Yv):Int:=Zbx (fun p=>Yv.Clock p) l
theorem Zjx (c:Zh) (h:sm (.sl Je) (Zh.YC c)):Za6 c=some (ZhT (Zh.YC c)):=by
  unfold Za6
  rw [Vm (XJ h) (fun p=>Yv.Clock p) (fun p _=>rfl),Option.bind_some]
  rfl
theorem Zc9 (c:Zh) (h:sm (.sl Je) (Zh.YC c)):Ja c=some (((Zh.YC c).length:Int)-1):=by
  have hs:=Zm h
  show some (IntKind.i64.wrap (((Zh.YC c).length:Int)-1))=_
  rw [Jd (by omega) (by omega)]
theorem Zfb (c:Zh) (i:Int) (h:sm (.sl Je) (Zh.YC c)):Vw c i=some (tr (0≤i∧i≤((Zh.YC c).length:Int)-2)):=by
  have hs:=Zm h
  unfold Vw
  rw [Zc9 c h,Option.bind_some,Jd (by omega) (by omega)]
  refine Zaf (Zd5 (Zby _ _ _)) ?_
  omega
def ZtY (c:Zh) (a:ZM):Prop :=
  ((ZM.Kind a=4∨ZM.Kind a=5)∧ZM.ZcL a=0∧(ZM.Zhj a).length=0∧ZeW (ZM.Delay a) false∧ZM.From a=ZhT (Zh.YC c)∧0≤ZM.From a∧(0≤ZM.To a∧ZM.To a≤((Zh.YC c).length:Int)-2)∧ZM.To a≠ZM.From a)∨
  (¬(ZM.Kind a=4∨ZM.Kind a=5)∧ZeW (ZM.Delay a) true∧ZeW (ZM.Zhj a) true∧ZM.To a=((Zh.YC c).length:Int)-1∧(0≤ZM.From a∧ZM.From a≤((Zh.YC c).length:Int)-2)∧
    ((ZM.Kind a=1∧Zpl (Zh.YC c) (ZM.From a)=false∧(1≤ZM.ZcL a∧ZM.ZcL a≤3))∨((ZM.Kind a=2∨ZM.Kind a=3)∧Zpl (Zh.YC c) (ZM.From a)=true∧ZM.ZcL a=0)))
theorem Zm6 (k:Int):Zdk k=some (tr (k=4∨k=5)):=by
  unfold Zdk
  split
  · rename_i h;rw [YS (.inl h)]
  · rename_i h
    exact ZdR (by rw [decide_eq_true_eq];omega)
theorem Zpn (c:Zh) (a:ZM) (hp:sm (.sl Je) (Zh.YC c)) (hd:sm (.sl Yh) (ZM.Delay a)) (hw:sm (.sl Yh) (ZM.Zhj a)):Za3 c a=some (tr (ZtY c a)):=by
  unfold Za3
  have hdl:=ZgI hd
  have hsl:=ZgI hw
  rw [Zm6,Option.bind_some]
  by_cases hk:ZM.Kind a=4∨ZM.Kind a=5
  · rw [if_pos (YS hk)]
    refine Zaf (YG (fun _=>YG (fun _=>Xp (ZeG _ _ hdl) (fun _=>?_)))) (P:=ZM.ZcL a=0∧((ZM.Zhj a).length:Int)=0∧ZeW (ZM.Delay a) false∧(ZM.From a=ZhT (Zh.YC c)∧0≤ZM.From a∧(0≤ZM.To a∧ZM.To a≤((Zh.YC c).length:Int)-2)∧ZM.To a≠ZM.From a)) ?_
    · rw [Zjx c hp,Option.bind_some]
      refine YG (fun _=>YG (fun _=>Xp (Zfb c _ hp) (fun _=>ZdR ?_)))
      rw [Bool.not_eq_true',decide_eq_false_iff_not]
    · unfold ZtY
      constructor
      · rintro ⟨x1,x2,x3,x4⟩
        exact .inl ⟨hk,x1,by omega,x3,x4⟩
      · rintro (⟨_,x1,x2,x3,x4⟩ | ⟨x,_⟩)
        · exact ⟨x1,by omega,x3,x4⟩
        · exact absurd hk x
  · rw [if_neg (by rw [Yr hk];simp)]
    refine Zaf (Xp (ZeG _ _ hdl) (fun _=>Xp (ZeG _ _ hsl) (fun _=>?_))) (P:=ZeW (ZM.Delay a) true∧ZeW (ZM.Zhj a) true∧(ZM.To a=((Zh.YC c).length:Int)-1∧(0≤ZM.From a∧ZM.From a≤((Zh.YC c).length:Int)-2)∧
      ((ZM.Kind a=1∧Zpl (Zh.YC c) (ZM.From a)=false∧(1≤ZM.ZcL a∧ZM.ZcL a≤3))∨((ZM.Kind a=2∨ZM.Kind a=3)∧Zpl (Zh.YC c) (ZM.From a)=true∧ZM.ZcL a=0)))) ?_
    · rw [Zc9 c hp,Option.bind_some]
      refine YG (fun _=>Xp (Zfb c _ hp) (fun hF=>?_))
      obtain ⟨p,hp1,hp2⟩:=Ztx (l:=Zh.YC c) hF.1 (by omega)
      rw [hp1,hp2]
      simp only [Option.bind_some]
      by_cases k1:ZM.Kind a=1
      · simp only [k1,if_true]
        refine Zaf (ZgK (fun _=>Zd5 (Zby _ _ _))) ?_
        grind
      by_cases k2:ZM.Kind a=2
      · simp only [k2,if_true,Int.reduceEq,if_false]
        refine Zaf (YG (fun _=>ZdR (decide_eq_true_iff))) ?_
        grind
      by_cases k3:ZM.Kind a=3
      · simp only [k3,if_true,Int.reduceEq,if_false]
        refine Zaf (YG (fun _=>ZdR (decide_eq_true_iff))) ?_
        grind
      · simp only [k1,k2,k3,if_false]
        refine Zk9 ?_
        grind
    · unfold ZtY
      constructor
      · intro x;exact .inr ⟨hk,x⟩
      · rintro (⟨x,_⟩ | ⟨_,x⟩)
        · exact absurd x hk
        · exact x
end Go.Proofs.YtfndhpjedmopdaaGreatDoor
/-
  Plain laws: cells and libraries.
-/
namespace Go.Proofs.YtfndhpjedmopdaaGreatDoor
set_option linter.unusedVariables false
set_option linter.unusedSimpArgs false
open Go Go.Sx
def ZfG (o a:ZM):Prop:=ZM.Kind o=ZM.Kind a∧ZM.From o=ZM.From a∧ZM.To o=ZM.To a
def Apart (l:List ZM) (k:Nat) (a:ZM):Prop:=∀ (j:Nat) (o:ZM),j<k→l[j]?=some o→¬ZfG o a
structure Zoa (c:Zh):Prop where
  name:(Zh.Name c).length≤4611686018427387904
  pins:sm (.sl Je) (Zh.YC c)
  arcs:sm (.sl ZaK) (Zh.Zbc c)
  truth:sm (.sl (.int .i64)) (Zh.Truth c)
theorem ZtK {c:Zh} (h:sm YL c):Zoa c:=⟨Zhl h.1,h.2.2.1,h.2.2.2.1,h.2.2.2.2.1⟩
theorem Zua {a:ZM} (h:sm ZaK a):sm (.sl Yh) (ZM.Delay a)∧sm (.sl Yh) (ZM.Zhj a):=⟨h.2.2.2.2.1,h.2.2.2.2.2.1⟩
theorem Zju (o a:ZM):Xe o a=some (tr (ZfG o a)):=by
  unfold Xe ZfG
  exact YG (fun _=>YG (fun _=>ZdR decide_eq_true_iff))
theorem Zmj (c:Zh) (h:Zoa c):JD c=some (tr ((Zh.Zbc c).length≤8∧Zgm (Zh.Zbc c) (fun k a=>ZtY c a∧Apart (Zh.Zbc c) k a))):=by
  unfold JD
  have hs:=Zm h.arcs
  rw [ZaU (XJ h.arcs) (fun k a=>ZtY c a∧Apart (Zh.Zbc c) k a) (bad:=false) (good:=decide ((Zh.Zbc c).length≤8))
    (fun k a hx hk _=>by
      obtain ⟨h1,h2⟩:=Zua (Zag h.arcs hx)
      simp only [QV,show (k:Int)<((Zh.Zbc c).length:Int) from by omega,if_true,Zr,hx,Option.bind_some,Zpn c a h.pins h1 h2]
      by_cases hA:ZtY c a
      · rw [if_pos (YS hA),Zi (by omega),Zi (by omega)]
        simp only [Int.toNat_natCast,Int.toNat_zero,List.drop_zero,Nat.sub_zero]
        rw [QG (by show ((Zh.Zbc c).take k).length≤4611686018427387904;rw [List.length_take];omega) (fun o=>tr (ZfG o a)) (fun o _=>Zju o a),Option.bind_some]
        have e:((Zh.Zbc c).take k).any (fun o=>tr (ZfG o a))=true↔¬Apart (Zh.Zbc c) k a:=by
          rw [List.any_eq_true]
          constructor
          · rintro ⟨o,ho,hs⟩ hap
            obtain ⟨j,hj⟩:=List.mem_iff_getElem?.1 ho
            rw [List.getElem?_take] at hj
            split at hj
            · rename_i hjk;exact hap j o hjk hj ((VE _).1 hs)
            · cases hj
          · intro hn
            apply Classical.byContradiction
            intro hno
            refine hn (fun j o hj ho hs=>hno ⟨o,?_,YS hs⟩)
            exact List.mem_iff_getElem?.2 ⟨j,by rw [List.getElem?_take,if_pos hj];exact ho⟩
        constructor
        · rintro ⟨_,hap⟩;rw [if_neg (fun hh=>e.1 hh hap)]
        · intro hn;rw [if_pos (e.2 (fun hap=>hn ⟨hA,hap⟩))]
      · rw [if_neg (by rw [Yr hA];simp)]
        exact ⟨fun hh=>absurd hh.1 hA,fun _=>rfl⟩)
    (fun _=>by
      simp only [QV,Int.lt_irrefl,if_false]
      congr 2
      rw [decide_eq_decide];omega)]
  congr 1
  refine ZeC ?_
  rw [VE]
  by_cases hA:Zgm (Zh.Zbc c) (fun k a=>ZtY c a∧Apart (Zh.Zbc c) k a)
  · rw [VP hA,decide_eq_true_eq];exact ⟨fun h=>⟨h,hA⟩,fun h=>h.1⟩
  · rw [QF hA];exact ⟨fun h=>(by cases h),fun h=>absurd h.2 hA⟩
def Zps (c:Zh) (k:Int):Prop:=∃ a∈Zh.Zbc c,ZM.Kind a=k
theorem Zem (c:Zh) (k:Int) (h:Zoa c):QY c k=some (tr (Zps c k)):=by
  unfold QY
  rw [Vk (XJ h.arcs) (fun a=>decide (ZM.Kind a=k)) (fun a _=>rfl),Option.bind_some]
  refine ZdR ?_
  rw [List.any_eq_true]
  simp only [decide_eq_true_eq,Zps]
def ZfZ (c:Zh):Prop :=
  (Zh.Kind c=1∧ZlK (Zh.YC c)=0∧(Zh.Truth c).length=2 ^ ((Zh.YC c).length-1)∧Zg5 (Zh.Truth c) 0 1)∨
  (Zh.Kind c=2∧ZlK (Zh.YC c)=1∧(Zh.Truth c).length=0∧¬Zps c 1∧(Zps c 2↔¬Zps c 3))∨
  (Zh.Kind c=3∧ZlK (Zh.YC c)=1∧(Zh.Truth c).length=0∧Zps c 1∧Zps c 2∧¬Zps c 3)
theorem Zsw {n:Nat} (h:n≤4):(2:Nat) ^ n≤16:=by
  calc (2:Nat) ^ n≤2 ^ 4:=Nat.pow_le_pow_right (by omega) h
    _=16:=rfl
theorem Zw4 {m:Nat} (h:m≤4):IntKind.i64.wrap ((1:Int)*(2:Int) ^ min m (IntKind.bits IntKind.i64))=((2 ^ m:Nat):Int):=by
  have hb:min m (IntKind.bits IntKind.i64)=m:=Nat.min_eq_left (by show m≤64;omega)
  have e:(1:Int)*(2:Int) ^ m=((2 ^ m:Nat):Int):=by simp
  rw [hb,e]
  have h16:=Zsw h
  clear hb e
  generalize 2 ^ m=g at h16 ⊢
  rw [Jd (by omega) (by omega)]
theorem ZlN (c:Zh) (h:Zoa c) (hp:ZiP (Zh.YC c)):V7 c=some (tr (ZfZ c)):=by
  unfold V7
  have h2:=hp.1
  have h5:=hp.2.1
  refine (show Zu (fun v=>Y3 c v.1 v.2.1) ((0:Int),(0:Int),())=_ from YH (l:=Zh.YC c) (ρ:=Bool) (fun k=>((((Zh.YC c).take k).countP (fun p=>Yv.Clock p):Int),(k:Int),())) (step:=fun v=>Y3 c v.1 v.2.1)
    (fun k p hx hk=>by
      have hcnt:((Zh.YC c).take k).countP (fun p=>Yv.Clock p)≤5:=by
        have h1:=List.countP_le_length (p:=fun p=>Yv.Clock p) (l:=(Zh.YC c).take k)
        rw [List.length_take] at h1;omega
      have hnext:((Zh.YC c).take (k+1)).countP (fun p=>Yv.Clock p)=((Zh.YC c).take k).countP (fun p=>Yv.Clock p)+if Yv.Clock p=true then 1 else 0:=by
        rw [YD hx,List.countP_append];simp [List.countP_cons]
      simp only [Y3,show (k:Int)<((Zh.YC c).length:Int) from by omega,if_true,Zr,hx,Option.bind_some,hnext]
      by_cases hc:Yv.Clock p=true
      · rw [if_pos hc,if_pos hc,Zah (by omega),Zah (by omega)]
      · rw [if_neg hc,if_neg hc,Zah (by omega)];rfl)
    ?_)
  have hout:=Zc9 c h.pins
  simp only [Y3,Int.lt_irrefl,if_false,List.take_length,hout,Option.bind_some,show (((Zh.YC c).length:Int)-1).toNat=(Zh.YC c).length-1 from by omega,Zw4 (show (Zh.YC c).length-1≤4 by omega)]
  have e00:((Zh.YC c).countP (fun p=>Yv.Clock p):Int)=0↔ZlK (Zh.YC c)=0:=by unfold ZlK;omega
  have e01:((Zh.YC c).countP (fun p=>Yv.Clock p):Int)=1↔ZlK (Zh.YC c)=1:=by unfold ZlK;omega
  unfold ZfZ
  by_cases k1:Zh.Kind c=1
  · simp only [k1,if_true]
    by_cases hc:ZlK (Zh.YC c)=0
    · rw [if_pos (e00.2 hc),Zi (by omega)]
      by_cases ht:(Zh.Truth c).length=2 ^ ((Zh.YC c).length-1)
      · rw [if_pos (by rw [ht]),Zcp _ _ _ (XJ h.truth),Option.bind_some]
        congr 2
        refine (Zon ?_).symm
        rw [Zjr]
        exact ⟨fun hh=>.inl ⟨trivial,hc,ht,hh⟩,fun hh=>by grind⟩
      · rw [if_neg (by omega),Yr (by grind)]
    · rw [if_neg (fun hh=>hc (e00.1 hh)),Yr (by grind)]
  by_cases k2:Zh.Kind c=2
  · simp only [k2,if_true,Int.reduceEq,if_false]
    by_cases hc:ZlK (Zh.YC c)=1
    · rw [if_pos (e01.2 hc)]
      by_cases ht:(Zh.Truth c).length=0
      · rw [if_pos (by omega),Zem c 1 h,Option.bind_some]
        by_cases h1:Zps c 1
        · rw [if_pos (YS h1),Yr (by grind)]
        · rw [if_neg (by rw [Yr h1];simp),Zem c 2 h,Zem c 3 h]
          simp only [Option.bind_some]
          congr 2
          refine (Zon ?_).symm
          by_cases a:Zps c 2<;>by_cases b:Zps c 3<;>simp only [YS,Yr,a,b,not_false_eq_true]<;>grind
      · rw [if_neg (by omega),Yr (by grind)]
    · rw [if_neg (fun hh=>hc (e01.1 hh)),Yr (by grind)]
  by_cases k3:Zh.Kind c=3
  · simp only [k3,if_true,Int.reduceEq,if_false]
    by_cases hc:ZlK (Zh.YC c)=1
    · rw [if_pos (e01.2 hc)]
      by_cases ht:(Zh.Truth c).length=0
      · rw [if_pos (by omega),Zem c 1 h,Option.bind_some]
        by_cases h1:Zps c 1
        · rw [if_pos (YS h1),Zem c 2 h,Option.bind_some]
          by_cases h2:Zps c 2
          · rw [if_pos (YS h2),Zem c 3 h,Option.bind_some]
            congr 2
            refine (Zon ?_).symm
            rw [Bool.not_eq_true',←Bool.not_eq_true,VE]
            grind
          · rw [if_neg (by rw [Yr h2];simp),Yr (by grind)]
        · rw [if_neg (by rw [Yr h1];simp),Yr (by grind)]
      · rw [if_neg (by omega),Yr (by grind)]
    · rw [if_neg (fun hh=>hc (e01.1 hh)),Yr (by grind)]
  · simp only [k1,k2,k3,if_false]
    rw [Yr (by grind)]
def ZwR (c:Zh):Prop:=Zbf (Zh.Name c)=true∧ZiP (Zh.YC c)∧((Zh.Zbc c).length≤8∧Zgm (Zh.Zbc c) (fun k a=>ZtY c a∧Apart (Zh.Zbc c) k a))∧(0≤Zh.Zsj c∧Zh.Zsj c≤100000)∧(0≤Zh.ZgT c∧Zh.ZgT c≤100000)∧ZfZ c
def Zjv (c:Zh):Prop:=Zbf (Zh.Name c)=true∧ZiP (Zh.YC c)∧((Zh.Zbc c).length≤8∧Zgm (Zh.Zbc c) (fun k a=>Zk2 c a∧Apart (Zh.Zbc c) k a))∧(0≤Zh.Zsj c∧Zh.Zsj c≤100000)∧(0≤Zh.ZgT c∧Zh.ZgT c≤100000)∧ZfZ c
theorem Zrb {l:List Yv} {i j:Nat} {p q:Yv} (hij:i<j) (hp:l[i]?=some p) (hq:l[j]?=some q) (cp:Yv.Clock p=true) (cq:Yv.Clock q=true):2≤ZlK l:=by
  unfold ZlK
  have e:l.countP (fun p=>Yv.Clock p)=(l.take j).countP (fun p=>Yv.Clock p)+(l.drop j).countP (fun p=>Yv.Clock p):=by rw [←List.countP_append,List.take_append_drop]
  have h1:0<(l.take j).countP (fun p=>Yv.Clock p):=List.countP_pos_iff.2 ⟨p,List.mem_iff_getElem?.2 ⟨i,by rw [List.getElem?_take,if_pos hij];exact hp⟩,cp⟩
  have h2:0<(l.drop j).countP (fun p=>Yv.Clock p):=List.countP_pos_iff.2 ⟨q,List.mem_iff_getElem?.2 ⟨0,by rw [List.getElem?_drop];exact hq⟩,cq⟩
  omega
theorem ZnZ {l:List Yv} (h:ZlK l≤1) {i:Int} (h0:0≤i):Zpl l i=true↔i=ZhT l:=by
  unfold ZhT Zbx Zpl
  constructor
  · intro hc
    split at hc
    · rename_i p hp
      split
      · rename_i j hj
        obtain ⟨hj1,hj2,hj3⟩:=List.findIdx?_eq_some_iff_getElem.1 hj
        have hjg:l[j]?=some l[j]:=List.getElem?_eq_getElem hj1
        rcases Nat.lt_trichotomy i.toNat j with hlt | heq | hlt
        · have:=Zrb hlt hp hjg hc hj2;omega
        · omega
        · have:=Zrb hlt hjg hp hj2 hc;omega
      · rename_i hn
        rw [List.findIdx?_eq_none_iff] at hn
        have:=hn p (List.mem_of_getElem? hp)
        rw [hc] at this;cases this
    · cases hc
  · intro hi
    split at hi
    · rename_i j hj
      obtain ⟨hj1,hj2,hj3⟩:=List.findIdx?_eq_some_iff_getElem.1 hj
      subst hi
      rw [Int.toNat_natCast,List.getElem?_eq_getElem hj1]
      exact hj2
    · omega
theorem ZrW {l:List Yv} (h:ZiP l):Zpl l ((l.length:Int)-1)=false:=by
  have h2:=h.1
  have hp:l[l.length-1]?=some l[l.length-1]:=List.getElem?_eq_getElem (by omega)
  have:=((h.2.2.2 _ _ hp).2.1 (by omega)).2.2
  unfold Zpl
  rw [show ((l.length:Int)-1).toNat=l.length-1 by omega,hp]
  exact this
theorem Ztd {c:Zh} (hp:ZiP (Zh.YC c)) (hk:ZlK (Zh.YC c)≤1) (a:ZM):ZtY c a↔Zk2 c a:=by
  have h2:=hp.1
  have hF:0≤ZM.From a→(Zpl (Zh.YC c) (ZM.From a)=true↔ZM.From a=ZhT (Zh.YC c)):=fun h=>ZnZ hk h
  have hT:0≤ZM.To a→(Zpl (Zh.YC c) (ZM.To a)=true↔ZM.To a=ZhT (Zh.YC c)):=fun h=>ZnZ hk h
  have hlast:=ZrW hp
  have hfr:∀ i,Zpl (Zh.YC c) i=true→i<((Zh.YC c).length:Int):=by
    intro i hi
    unfold Zpl at hi
    split at hi
    · rename_i p hp'
      have:=(List.getElem?_eq_some_iff.1 hp').1
      omega
    · cases hi
  unfold ZtY Zk2
  generalize ZhT (Zh.YC c)=ck at *
  constructor
  · rintro (⟨k,s,sl,td,fc,f0,⟨t0,t1⟩,ne⟩ | ⟨k,td,ts,te,⟨f0,f1⟩,hh⟩)
    · have hclk:=(hF f0).2 fc
      have hnl:ZM.From a≠((Zh.YC c).length:Int)-1:=fun e=>by rw [e,hlast] at hclk;cases hclk
      have:=hfr _ hclk
      refine ⟨⟨f0,by omega⟩,⟨t0,by omega⟩,.inr (.inr ⟨k,hclk,by omega,?_,s,td,sl⟩)⟩
      rw [←Bool.not_eq_true]
      intro hc
      exact ne (((hT t0).1 hc).trans fc.symm)
    · refine ⟨⟨f0,f1⟩,⟨by omega,by omega⟩,?_⟩
      rcases hh with ⟨k1,c1,s1⟩ | ⟨k1,c1,s1⟩
      · exact .inl ⟨k1,c1,te,s1,td,ts⟩
      · exact .inr (.inl ⟨k1,c1,te,s1,td,ts⟩)
  · rintro ⟨⟨f0,f1⟩,⟨t0,t1⟩,(⟨k,c1,te,s,td,ts⟩ | ⟨k,c1,te,s,td,ts⟩ | ⟨k,c1,tl,c2,s,td,sl⟩)⟩
    · exact .inr ⟨by omega,td,ts,te,⟨f0,f1⟩,.inl ⟨k,c1,s⟩⟩
    · exact .inr ⟨by omega,td,ts,te,⟨f0,f1⟩,.inr ⟨k,c1,s⟩⟩
    · refine .inl ⟨k,s,sl,td,(hF f0).1 c1,f0,⟨t0,by omega⟩,fun e=>?_⟩
      rw [e,c1] at c2;cases c2
theorem ZfZ.ZlK {c:Zh} (h:ZfZ c):ZlK (Zh.YC c)≤1:=by
  rcases h with h | h | h
  · have:=h.2.1;omega
  · have:=h.2.1;omega
  · have:=h.2.1;omega
theorem ZuS (c:Zh):ZwR c↔Zjv c:=by
  unfold ZwR Zjv
  constructor
  · rintro ⟨a,b,⟨c1,d⟩,e,f,g⟩
    exact ⟨a,b,⟨c1,fun k x hx=>⟨(Ztd b g.ZlK x).1 (d k x hx).1,(d k x hx).2⟩⟩,e,f,g⟩
  · rintro ⟨a,b,⟨c1,d⟩,e,f,g⟩
    exact ⟨a,b,⟨c1,fun k x hx=>⟨(Ztd b g.ZlK x).2 (d k x hx).1,(d k x hx).2⟩⟩,e,f,g⟩
theorem ZnR (c:Zh) (h:sm YL c):ZeF c=some (tr (Zjv c)):=by
  have hc:=ZtK h
  unfold ZeF
  refine Zaf (Xp (by rw [Zf3];exact ZdR Iff.rfl) (fun _=>Xp (Zmw _ hc.pins) (fun hp=>Xp (Zmj c hc) (fun _=>Xp (Zby _ _ _) (fun _=>Xp (Zby _ _ _) (fun _=>Zd5 (ZlN c hc hp))))))) ?_
  exact (ZuS c)
end Go.Proofs.YtfndhpjedmopdaaGreatDoor
/-
  Plain laws: cells by the reference; libraries.
-/
namespace Go.Proofs.YtfndhpjedmopdaaGreatDoor
set_option linter.unusedVariables false
set_option linter.unusedSimpArgs false
open Go Go.Sx
def Ze8 (l:List ZM):List Int:=(List.range 6).map (fun (j:Nat)=>((l.countP (fun a=>decide (ZM.Kind a=(j:Int))):Nat):Int))
theorem Zc3 (l:List ZM) {j:Nat} (h:j<6):(Ze8 l)[j]?=some ((l.countP (fun a=>decide (ZM.Kind a=(j:Int))):Nat):Int):=by
  simp [Ze8,List.getElem?_range h]
theorem ZlL (c:Zh) (h:Zoa c) (hk:∀ a∈Zh.Zbc c,1≤ZM.Kind a∧ZM.Kind a≤5):Zcr c=some (Ze8 (Zh.Zbc c)):=by
  unfold Zcr
  have hs:=Zm h.arcs
  have h0:List.replicate (Int.toNat (6:Int)) (0:Int)=Ze8 ((Zh.Zbc c).take 0):=by simp [Ze8];decide
  rw [h0]
  refine YH (l:=Zh.Zbc c) (ρ:=List Int) (fun k=>((k:Int),Ze8 ((Zh.Zbc c).take k),())) (step:=fun v=>VB c v.1 v.2.1)
    (fun k a hx hlt=>?_) (by simp only [VB,Int.lt_irrefl,if_false,List.take_length])
  obtain ⟨k1,k5⟩:=hk a (List.mem_of_getElem? hx)
  have hkn:ZM.Kind a=(((ZM.Kind a).toNat:Nat):Int):=by omega
  have hcnt:∀ j:Nat,((Zh.Zbc c).take k).countP (fun a=>decide (ZM.Kind a=(j:Int)))≤1048576:=by
    intro j
    have h1:=List.countP_le_length (p:=fun a=>decide (ZM.Kind a=(j:Int))) (l:=(Zh.Zbc c).take k)
    rw [List.length_take] at h1;omega
  simp only [VB,show (k:Int)<((Zh.Zbc c).length:Int) from by omega,if_true,Zr,hx,Option.bind_some]
  rw [VK (by omega) (Zc3 _ (show (ZM.Kind a).toNat<6 by omega)),Option.bind_some,Zah (hcnt _),Zah (by omega)]
  congr 3
  rw [Prod.mk.injEq]
  refine ⟨?_,rfl⟩
  apply List.ext_getElem?
  intro j
  by_cases hj:(ZM.Kind a).toNat=j
  · subst hj
    rw [List.getElem?_set_self (by simp [Ze8];omega),Zc3 _ (by omega),YD hx,List.countP_append]
    congr 2
    rw [List.countP_cons,List.countP_nil]
    simp [←hkn]
  · rw [List.getElem?_set_ne hj]
    by_cases h6:j<6
    · rw [Zc3 _ h6,Zc3 _ h6,YD hx,List.countP_append]
      congr 2
      rw [List.countP_cons,List.countP_nil]
      have:¬ZM.Kind a=(j:Int):=by omega
      simp [this]
    · rw [List.getElem?_eq_none (by simp [Ze8];omega),List.getElem?_eq_none (by simp [Ze8];omega)]
theorem ZmS (c:Zh) (j:Nat):0<(Zh.Zbc c).countP (fun a=>decide (ZM.Kind a=(j:Int)))↔Zps c j:=by
  rw [List.countP_pos_iff]
  simp only [decide_eq_true_eq,Zps]
theorem ZkL (c:Zh) (h:Zoa c) (hp:ZiP (Zh.YC c)) (hk1:Zh.Kind c=1) :
    Zu (fun v=>JE c ((ZlK (Zh.YC c):Int),true) v.1) ((0:Int),())=some (.inr (tr (ZfZ c))):=by
  have h2:=hp.1
  have h5:=hp.2.1
  have hs:=Zm h.truth
  have e1:IntKind.i64.wrap (((Zh.YC c).length:Int)-1)=((Zh.YC c).length:Int)-1:=Jd (by omega) (by omega)
  have e2:IntKind.u64.wrap (((Zh.YC c).length:Int)-1)=((Zh.YC c).length:Int)-1:=IntWalk.u64_in _ (by omega)
  rw [ZaU (XJ h.truth) (fun k x=>0≤x∧x≤1) (bad:=.inr false) (good:=.inr (tr (ZlK (Zh.YC c)=0∧(Zh.Truth c).length=2 ^ ((Zh.YC c).length-1))))
    (fun k x hx hk _=>by
      simp only [JE,show (k:Int)<((Zh.Truth c).length:Int) from by omega,if_true,Zr,hx,Option.bind_some,Zd0,within_iff]
      exact ⟨fun hh=>by rw [if_pos hh],fun hh=>by rw [if_neg hh]⟩)
    (fun _=>by
      simp only [JE,Int.lt_irrefl,if_false,e1,e2]
      by_cases hc:ZlK (Zh.YC c)=0
      · rw [if_pos (by omega),Zi (by omega),show (((Zh.YC c).length:Int)-1).toNat=(Zh.YC c).length-1 by omega,Zw4 (by omega)]
        congr 2
        congr 1
        refine (Zon ?_).symm
        rw [decide_eq_true_eq]
        constructor
        · intro hh;exact ⟨hc,by omega⟩
        · intro hh;rw [hh.2]
      · rw [if_neg (by omega),Yr (fun hh=>hc hh.1)])]
  congr 1
  by_cases hA:Zgm (Zh.Truth c) (fun k x=>0≤x∧x≤1)
  · rw [VP hA]
    congr 1
    refine Jq ?_
    have hAll:Zg5 (Zh.Truth c) 0 1:=fun x hx=>by
      obtain ⟨k,hk⟩:=List.mem_iff_getElem?.1 hx
      exact hA k x hk
    unfold ZfZ
    grind
  · rw [QF hA,Yr]
    intro hh
    rcases hh with hh | hh | hh
    · exact hA (fun k x hk=>hh.2.2.2 x (List.mem_of_getElem? hk))
    · have:=hh.1;omega
    · have:=hh.1;omega
theorem ZnD (c:Zh) (hsm:sm YL c):Zep c=some (tr (Zjv c)):=by
  have h:=ZtK hsm
  have hs:=Zm h.arcs
  unfold Zep
  rw [Znc c h.pins,Option.bind_some]
  by_cases hp':¬ZiP (Zh.YC c)
  · rw [QF hp',Yr (fun hh=>hp' hh.2.1)];rfl
  have hp:=Classical.not_not.1 hp'
  rw [VP hp]
  simp only [if_true]
  refine Zaf (Xp (P:=Zbf (Zh.Name c)=true) (by rw [ZdJ _ h.name];exact ZdR Iff.rfl) (fun hn=>ZgK (fun h8=>Xp (Zbs _ _ _) (fun hl=>Xp (Zbs _ _ _) (fun he=>?_))))) (P:=Zbf (Zh.Name c)=true∧¬((8:Int)<((Zh.Zbc c).length:Int))∧(0≤Zh.Zsj c∧Zh.Zsj c≤100000)∧(0≤Zh.ZgT c∧Zh.ZgT c≤100000)∧(Zgm (Zh.Zbc c) (fun k a=>Zk2 c a∧Apart (Zh.Zbc c) k a)∧ZfZ c)) ?_
  · rw [ZaU (XJ h.arcs) (fun k a=>Zk2 c a∧Apart (Zh.Zbc c) k a) (bad:=false) (good:=tr (ZfZ c))
      (fun k a hx hk _=>by
        obtain ⟨h1,h2⟩:=Zua (Zag h.arcs hx)
        simp only [Za8,show (k:Int)<((Zh.Zbc c).length:Int) from by omega,if_true,Zr,hx,Option.bind_some,Znw c a h.pins h1 h2 hp.1]
        have inner:Zu (fun v=>JL c (k:Int) a v.1) ((0:Int),())=some (sel (∀ j,j<k→∀ o,(Zh.Zbc c)[j]?=some o→¬ZfG o a) (.inl (IntKind.i64.wrap ((k:Int)+1),())) (.inr false)):=by
          refine ZmU k (by omega) (fun j=>∀ o,(Zh.Zbc c)[j]?=some o→¬ZfG o a) (fun j hj=>?_) (fun _=>by simp only [JL,Int.lt_irrefl,if_false])
          obtain ⟨o,ho⟩:∃ o,(Zh.Zbc c)[j]?=some o:=⟨_,List.getElem?_eq_getElem (by omega)⟩
          simp only [JL,show (j:Int)<(k:Int) from by omega,if_true,Zr,ho,Option.bind_some]
          have e:(∀ o',some o=some o'→¬ZfG o' a)↔¬ZfG o a:=⟨fun hh=>hh o rfl,fun hh o' ho'=>by injection ho' with ho';subst ho';exact hh⟩
          rw [e]
          unfold ZfG
          constructor
          · intro hh
            split
            · split
              · split
                · exact absurd ⟨‹_›,‹_›,‹_›⟩ hh
                · rfl
              · rfl
            · rfl
          · intro hh
            have hh:=Classical.not_not.1 hh
            rw [if_pos hh.1,if_pos hh.2.1,if_pos hh.2.2]
        have eap:Apart (Zh.Zbc c) k a↔(∀ j,j<k→∀ o,(Zh.Zbc c)[j]?=some o→¬ZfG o a):=⟨fun hh j hj o ho=>hh j o hj ho,fun hh j o hj ho=>hh j hj o ho⟩
        by_cases hA:Zk2 c a
        · rw [if_pos (YS hA),inner]
          constructor
          · intro hh;rw [VP (eap.1 hh.2)]
          · intro hh;rw [QF (fun h'=>hh ⟨hA,eap.2 h'⟩)]
        · rw [if_neg (by rw [Yr hA];simp)]
          exact ⟨fun hh=>absurd hh.1 hA,fun _=>rfl⟩)
      (fun hA=>by
        have hkinds:=ZlL c h (fun a ha=>by
          obtain ⟨k,hk⟩:=List.mem_iff_getElem?.1 ha
          exact (hA k a hk).1.kind)
        have g1:atI (Ze8 (Zh.Zbc c)) (1:Int)=some (((Zh.Zbc c).countP (fun a=>decide (ZM.Kind a=((1:Nat):Int))):Nat):Int):=VK (by omega) (Zc3 _ (by omega))
        have g2:atI (Ze8 (Zh.Zbc c)) (2:Int)=some (((Zh.Zbc c).countP (fun a=>decide (ZM.Kind a=((2:Nat):Int))):Nat):Int):=VK (by omega) (Zc3 _ (by omega))
        have g3:atI (Ze8 (Zh.Zbc c)) (3:Int)=some (((Zh.Zbc c).countP (fun a=>decide (ZM.Kind a=((3:Nat):Int))):Nat):Int):=VK (by omega) (Zc3 _ (by omega))
        have c1:=ZmS c 1
        have c2:=ZmS c 2
        have c3:=ZmS c 3
        simp only [Za8,Int.lt_irrefl,if_false,hkinds,Option.bind_some,g1,g2,g3]
        generalize (Zh.Zbc c).countP (fun a=>decide (ZM.Kind a=((1:Nat):Int)))=n1 at c1 ⊢
        generalize (Zh.Zbc c).countP (fun a=>decide (ZM.Kind a=((2:Nat):Int)))=n2 at c2 ⊢
        generalize (Zh.Zbc c).countP (fun a=>decide (ZM.Kind a=((3:Nat):Int)))=n3 at c3 ⊢
        by_cases k1:Zh.Kind c=1
        · rw [if_pos k1]
          exact ZkL c h hp k1
        rw [if_neg k1]
        have hgoal:∀ (b:Bool),(b=true↔ZfZ c)→(some (.inr b):Option ((Int×Unit) ⊕ Bool))=some (.inr (tr (ZfZ c))):=fun b hb=>by rw [Zon hb]
        have c1':Zps c 1↔0<n1:=c1.symm
        have c2':Zps c 2↔0<n2:=c2.symm
        have c3':Zps c 3↔0<n3:=c3.symm
        have hKO:ZfZ c↔(Zh.Kind c=2∧ZlK (Zh.YC c)=1∧(Zh.Truth c).length=0∧¬0<n1∧(0<n2↔¬0<n3))∨(Zh.Kind c=3∧ZlK (Zh.YC c)=1∧(Zh.Truth c).length=0∧0<n1∧0<n2∧¬0<n3):=by
          unfold ZfZ
          rw [c1',c2',c3']
          constructor
          · rintro (hh | hh | hh)
            · exact absurd hh.1 k1
            · exact .inl hh
            · exact .inr hh
          · rintro (hh | hh)
            · exact .inr (.inl hh)
            · exact .inr (.inr hh)
        by_cases k2:Zh.Kind c=2
        · rw [if_pos k2]
          split
          · split
            · split
              · rename_i a b d
                refine hgoal _ ?_
                rw [hKO]
                simp only [beq_iff_eq,decide_eq_decide] at d
                constructor
                · intro hh;cases hh
                · intro hh;omega
              · rename_i a b d
                refine hgoal _ ?_
                rw [hKO,decide_eq_true_eq]
                simp only [beq_iff_eq,decide_eq_decide] at d
                omega
            · refine hgoal _ ?_
              rw [hKO]
              constructor
              · intro hh;cases hh
              · intro hh;omega
          · refine hgoal _ ?_
            rw [hKO]
            constructor
            · intro hh;cases hh
            · intro hh;omega
        rw [if_neg k2]
        repeat' split
        all_goals
          refine hgoal _ ?_
          rw [hKO]
          first
            | (rw [decide_eq_true_eq];omega)
            | (constructor
               · intro hh;cases hh
               · intro hh;omega))]
    congr 1
    by_cases hA:Zgm (Zh.Zbc c) (fun k a=>Zk2 c a∧Apart (Zh.Zbc c) k a)
    · rw [VP hA];exact Jq ⟨fun x=>⟨hA,x⟩,fun x=>x.2⟩
    · rw [QF hA,Yr (fun x=>hA x.1)]
  · unfold Zjv
    constructor
    · rintro ⟨a,b,c1,d,e,f⟩
      exact ⟨a,hp,⟨by omega,e⟩,c1,d,f⟩
    · rintro ⟨a,b,⟨c1,d⟩,e,f,g⟩
      exact ⟨a,by omega,e,f,d,g⟩
end Go.Proofs.YtfndhpjedmopdaaGreatDoor
/-
  Plain laws: libraries; names of a design.
-/
namespace Go.Proofs.YtfndhpjedmopdaaGreatDoor
set_option linter.unusedVariables false
set_option linter.unusedSimpArgs false
open Go Go.Sx
theorem Zrs {α:Type} {l:List α} {k:Nat} {s:α}:s ∉ l.take k↔∀ (j:Nat) (q:α),j<k→l[j]?=some q→q≠s:=by
  constructor
  · intro h j q hj hq e
    refine h (List.mem_iff_getElem?.2 ⟨j,?_⟩)
    rw [List.getElem?_take,if_pos hj,hq,e]
  · intro h hm
    obtain ⟨j,hj⟩:=List.mem_iff_getElem?.1 hm
    rw [List.getElem?_take] at hj
    split at hj
    · rename_i hjk;exact h j s hjk hj rfl
    · cases hj
theorem ZpW {α:Type} (f:α→List UInt8) (l:List α):Jb (l.map f) l.length↔Zgm l (fun k x=>Zbf (f x)=true∧∀ (j:Nat) (q:α),j<k→l[j]?=some q→f q≠f x):=by
  constructor
  · intro h k x hx
    have hk:=(List.getElem?_eq_some_iff.1 hx).1
    obtain ⟨h1,h2⟩:=h k (f x) hk (by simp [hx])
    refine ⟨h1,fun j q hj hq=>Zrs.1 h2 j (f q) hj (by simp [hq])⟩
  · intro h j s hj hs
    simp only [List.getElem?_map,Option.map_eq_some_iff] at hs
    obtain ⟨x,hx,rfl⟩:=hs
    obtain ⟨h1,h2⟩:=h j x hx
    refine ⟨h1,Zrs.2 (fun i q hi hq=>?_)⟩
    simp only [List.getElem?_map,Option.map_eq_some_iff] at hq
    obtain ⟨y,hy,rfl⟩:=hq
    exact h2 i y hi hy
def Zgr (l:List Zh):List (List UInt8):=l.map Zh.Name
def Zqe (a:Zl):Prop:=(Zl.Cells a).length≤8∧(∀ c∈Zl.Cells a,Zjv c)∧Jb (Zgr (Zl.Cells a)) (Zl.Cells a).length
theorem ZnN {a:Zl} (h:sm Z6 a):sm (.sl YL) (Zl.Cells a):=h.1
theorem ZeT {α:Type} {l:List α} {P:α→Prop}:Zgm l (fun _ x=>P x)↔∀ x∈l,P x:=by
  constructor
  · intro h x hx
    obtain ⟨k,hk⟩:=List.mem_iff_getElem?.1 hx
    exact h k x hk
  · intro h k x hk
    exact h x (List.mem_of_getElem? hk)
theorem ZjA {P Q:Prop}:sel P (tr Q) false=tr (P∧Q):=by
  by_cases h:P
  · rw [VP h];exact Jq ⟨fun q=>⟨h,q⟩,fun q=>q.2⟩
  · rw [QF h,Yr (fun q=>h q.1)]
theorem ZkP (a:Zl) (h:sm Z6 a):ZbS a=some (tr (Zqe a)):=by
  have hc:=ZnN h
  have hs:=Zm hc
  unfold ZbS
  have:=Zh8 (l:=Zl.Cells a) (ρ:=Bool) (fun k=>((Zgr (Zl.Cells a)).take k,(k:Int),())) (fun _ c=>Zjv c) (step:=fun v=>XT a v.1 v.2.1) (bad:=false) (good:=tr ((Zl.Cells a).length≤8∧Jb (Zgr (Zl.Cells a)) (Zl.Cells a).length))
    (fun k c hx hk _=>by
      have hn:(Zgr (Zl.Cells a))[k]?=some (Zh.Name c):=by simp [Zgr,hx]
      simp only [XT,show (k:Int)<((Zl.Cells a).length:Int) from by omega,if_true,Zr,hx,Option.bind_some,ZnR c (Zag hc hx)]
      rw [Zi (by simp only [List.length_take,List.length_singleton,Zgr,List.length_map];omega),YD hn,Zah (by omega)]
      constructor
      · intro hh;rw [if_pos (YS hh)]
      · intro hh;rw [if_neg (by rw [Yr hh];simp)])
    (fun hA=>by
      have e0:(Zgr (Zl.Cells a)).take (Zl.Cells a).length=Zgr (Zl.Cells a):=by rw [show (Zl.Cells a).length=(Zgr (Zl.Cells a)).length by simp [Zgr],List.take_length]
      have hlen:(Zgr (Zl.Cells a)).length=(Zl.Cells a).length:=by simp [Zgr]
      simp only [XT,Int.lt_irrefl,if_false,e0]
      by_cases h8:(Zl.Cells a).length≤8
      · rw [if_pos (by omega),ZbC _ (by rw [hlen];omega),Option.bind_some,hlen]
        congr 2
        exact Jq ⟨fun q=>⟨h8,q⟩,fun q=>q.2⟩
      · rw [if_neg (by omega),Yr (fun q=>h8 q.1)])
  refine (show Zu (fun v=>XT a v.1 v.2.1) (([]:List (List UInt8)),(0:Int),())=_ from this).trans ?_
  rw [ZjA]
  congr 1
  refine Jq ?_
  rw [ZeT]
  exact ⟨fun q=>⟨q.2.1,q.1,q.2.2⟩,fun q=>⟨q.2.1,q.1,q.2.2⟩⟩
theorem Znl {α ρ:Type} {f:α→List UInt8} {l:List α} {x:α} {k:Nat} (hk:k≤1048576) (hkl:k≤l.length) {step:Int×Unit→Option ((Int×Unit) ⊕ ρ)} {bad good:ρ}
    (hs:∀ (j:Nat) (y:α),j<k→l[j]?=some y→step ((j:Int),())=some (if f y=f x then .inr bad else .inl (IntKind.i64.wrap ((j:Int)+1),())))
    (hx:step ((k:Int),())=some (.inr good)):Zu step ((0:Int),())=some (sel (∀ (j:Nat) (q:α),j<k→l[j]?=some q→f q≠f x) good bad):=by
  rw [ZmU k (by omega) (fun j=>∀ q,l[j]?=some q→f q≠f x) (bad:=bad) (good:=good) (fun j hj=>by
    have hjl:l[j]?=some l[j]:=List.getElem?_eq_getElem (by omega)
    rw [hs j _ hj hjl]
    constructor
    · intro hh;rw [if_neg (hh _ hjl)]
    · intro hh
      rw [if_pos]
      apply Classical.byContradiction
      intro hne
      refine hh (fun q hq=>?_)
      rw [hjl] at hq;injection hq with hq;subst hq;exact hne) (fun _=>hx)]
  congr 1
  have e:(∀ j,j<k→∀ q,l[j]?=some q→f q≠f x)↔(∀ (j:Nat) (q:α),j<k→l[j]?=some q→f q≠f x):=⟨fun h j q hj hq=>h j hj q hq,fun h j hj q hq=>h j q hj hq⟩
  rw [propext e]
theorem ZkZ (a:Zl) (h:sm Z6 a):ZbU a=some (tr (Zqe a)):=by
  have hc:=ZnN h
  have hs:=Zm hc
  unfold ZbU
  rw [ZaU (XJ hc) (fun k c=>Zjv c∧∀ (j:Nat) (q:Zh),j<k→(Zl.Cells a)[j]?=some q→Zh.Name q≠Zh.Name c) (bad:=false) (good:=tr ((Zl.Cells a).length≤8))
    (fun k c hx hk _=>by
      simp only [Jg,show (k:Int)<((Zl.Cells a).length:Int) from by omega,if_true,Zr,hx,Option.bind_some,ZnD c (Zag hc hx)]
      by_cases hC:Zjv c
      · rw [if_pos (YS hC),Znl (f:=Zh.Name) (l:=Zl.Cells a) (x:=c) (k:=k) (by omega) (by omega) (bad:=.inr false) (good:=.inl (IntKind.i64.wrap ((k:Int)+1),()))
          (fun j y hj hy=>by
            simp only [Jh,show (j:Int)<(k:Int) from by omega,if_true,Zr,hy,Option.bind_some]
            split<;>rfl)
          (by simp only [Jh,Int.lt_irrefl,if_false])]
        constructor
        · intro hh;rw [VP hh.2]
        · intro hh;rw [QF (fun q=>hh ⟨hC,q⟩)]
      · rw [if_neg (by rw [Yr hC];simp)]
        exact ⟨fun hh=>absurd hh.1 hC,fun _=>rfl⟩)
    (fun _=>by
      simp only [Jg,Int.lt_irrefl,if_false]
      congr 2
      exact (Zon (by rw [decide_eq_true_eq];omega)).symm)]
  rw [ZjA]
  congr 1
  refine Jq ?_
  unfold Zqe
  rw [Zgr,ZpW,←ZeT]
  constructor
  · rintro ⟨q,q8⟩
    exact ⟨q8,fun k x hx=>(q k x hx).1,fun k x hx=>⟨(q k x hx).1.1,(q k x hx).2⟩⟩
  · rintro ⟨q8,q1,q2⟩
    exact ⟨fun k x hx=>⟨q1 k x hx,(q2 k x hx).2⟩,q8⟩
theorem Ze9 (l:List (List UInt8)) (hl:l.length≤1048576) (hsm:∀ s∈l,s.length≤4611686018427387904):Zau l=some (tr (Jb l l.length)):=by
  unfold Zau
  rw [ZaU (show Len l by show l.length≤4611686018427387904;omega) (fun k s=>Zbf s=true∧∀ (j:Nat) (q:List UInt8),j<k→l[j]?=some q→id q≠id s) (bad:=false) (good:=true)
    (fun k s hx hk _=>by
      simp only [JY,show (k:Int)<(l.length:Int) from by omega,if_true,Zr,hx,Option.bind_some,ZdJ s (hsm s (List.mem_of_getElem? hx))]
      by_cases hC:Zbf s=true
      · rw [if_pos hC,Znl (f:=id) (l:=l) (x:=s) (k:=k) (by omega) (by omega) (bad:=.inr false) (good:=.inl (IntKind.i64.wrap ((k:Int)+1),()))
          (fun j y hj hy=>by
            simp only [JV,show (j:Int)<(k:Int) from by omega,if_true,Zr,hy,Option.bind_some,id]
            split<;>rfl)
          (by simp only [JV,Int.lt_irrefl,if_false])]
        constructor
        · intro hh;rw [VP hh.2]
        · intro hh;rw [QF (fun q=>hh ⟨hC,q⟩)]
      · rw [if_neg hC]
        exact ⟨fun hh=>absurd hh.1 hC,fun _=>rfl⟩)
    (fun _=>by simp only [JY,Int.lt_irrefl,if_false]),ZmW]
  congr 1
  refine Jq ?_
  have:=ZpW id l
  rw [List.map_id] at this
  exact this.symm
def Zbk (d:Za):List (List UInt8):=(Za.Instances d).map Zd.Name
def ZcQ (d:Za):List (List UInt8):=(Za.Z0 d).map ZI.Name
def Zj4 (d:Za):Prop:=(Za.Instances d).length≤14∧(Za.ZP d).length≤30∧(Za.Z0 d).length≤8∧Jb (Zbk d) (Zbk d).length∧Jb (Za.ZP d) (Za.ZP d).length∧Jb (ZcQ d) (ZcQ d).length
structure Zw8 (d:Za):Prop where
  insts:sm (.sl Zw) (Za.Instances d)
  ports:sm (.sl Xa) (Za.Z0 d)
  nets:sm (.sl .str) (Za.ZP d)
theorem gather {α ρ:Type} {l:List α} (hl:l.length≤1048576) (f:α→List UInt8) {step:List (List UInt8)×Int×Unit→Option ((List (List UInt8)×Int×Unit) ⊕ ρ)} {good:ρ}
    (hs:∀ (k:Nat) (x:α) (o:List (List UInt8)),l[k]?=some x→(k:Int)<(l.length:Int)→o.length=k→step (o,(k:Int),())=Zz ((o.length+[f x].length)*16≤140737488355328) (some (.inl (o++[f x],IntKind.i64.wrap ((k:Int)+1),()))))
    (hx:step (l.map f,(l.length:Int),())=some (.inr good)):Zu step (([]:List (List UInt8)),(0:Int),())=some good:=by
  refine (show Zu step (([]:List (List UInt8)),(0:Int),())=some good from YH (l:=l) (fun k=>((l.map f).take k,(k:Int),())) (fun k x hx hk=>?_) ?_)
  · have hn:(l.map f)[k]?=some (f x):=by simp [hx]
    have hlen:((l.map f).take k).length=k:=by rw [List.length_take,List.length_map];omega
    rw [hs k x _ hx (by omega) hlen,Zi (by rw [hlen];simp;omega),YD hn,Zah (by omega)]
  · have e0:(l.map f).take l.length=l.map f:=by rw [show l.length=(l.map f).length by simp,List.take_length]
    simp only [e0]
    exact hx
end Go.Proofs.YtfndhpjedmopdaaGreatDoor
