/-
  Plain laws: lists of numbers, tables.
-/
import Derived.Test.YtfndhpjedmopdaaGreatDoorLA
namespace Go.Proofs.YtfndhpjedmopdaaGreatDoor
set_option linter.unusedVariables false
set_option linter.unusedSimpArgs false
open Go Go.Sx
theorem Zeq {a b:Bool} (h:a=true↔b=true):a=b:=by cases a<;>cases b<;>simp_all
theorem V9 {P Q:Prop} (h:P↔Q):tr P=tr Q:=by rw [propext h]
def Inc (l:List Int):Prop:=∀ (k:Nat) (x y:Int),l[k]?=some x→l[k+1]?=some y→x<y
def ZiB (l:List Int) (lo hi:Int):Prop:=∀ x∈l,lo≤x∧x≤hi
theorem Zkw (l:List Int) (lo hi:Int):allIn l lo hi=true↔ZiB l lo hi:=by
  unfold allIn ZiB
  rw [List.all_eq_true]
  simp only [within_iff]
theorem VZ (l:List Int):YE l=some (l.length:Int):=rfl
theorem ZiX (l:List Int) (hl:Len l):Jf l=some (tr (Inc l)):=by
  unfold Jf
  have h4:l.length≤4611686018427387904:=hl
  by_cases h0:l.length=0
  · have:l=[]:=List.eq_nil_of_length_eq_zero h0
    subst this
    rw [ZiK (r:=true) (by rfl)]
    have h0:Inc []:=fun k x y h=>by simp at h
    rw [YL h0]
  have:=ZsI (ρ:=Bool) 1 l.length (by omega) h4 (fun k=>∀ x y,l[k-1]?=some x→l[k]?=some y→x<y) (step:=fun v=>Xb l v.1) (bad:=false) (good:=true)
    (fun k h1 h2 _=>by
      obtain ⟨x,hx⟩:∃ x,l[k-1]?=some x:=⟨_,List.getElem?_eq_getElem (by omega)⟩
      obtain ⟨y,hy⟩:∃ y,l[k]?=some y:=⟨_,List.getElem?_eq_getElem h2⟩
      have e1:IntKind.i64.wrap ((k:Int)-1)=((k-1:Nat):Int):=by rw [V7 (by omega) (by omega)];omega
      simp only [Xb,show (k:Int)<(l.length:Int) from by omega,if_true,e1,Zu,hx,hy,Option.bind_some]
      refine ⟨fun h=>?_,fun h=>?_⟩
      · have:=h x y rfl rfl
        rw [if_neg (by omega)]
      · rw [if_pos]
        rcases Int.lt_or_le x y with h' | h'
        · exact absurd (fun a b ha hb=>by injection ha with ha;injection hb with hb;subst ha;subst hb;exact h') h
        · exact h')
    (fun _=>by simp only [Xb,Int.lt_irrefl,if_false])
  refine (show Zt (fun v=>Xb l v.1) ((1:Int),())=_ from this).trans ?_
  rw [Zkv]
  congr 1
  refine V9 ⟨fun h k x y hx hy=>?_,fun h j h1 h2 x y hx hy=>?_⟩
  · exact h (k+1) (by omega) (List.getElem?_eq_some_iff.1 hy).1 x y (by simpa using hx) hy
  · exact h (j-1) x y hx (by rw [show j-1+1=j by omega];exact hy)
def ZfK (l:List Int):Prop:=1≤l.length∧l.length≤4∧ZiB l 0 100000∧Inc l
theorem Zjr (l:List Int) (hl:Len l):Zdr l=some (tr (ZfK l)):=by
  unfold Zdr
  rw [VZ,Option.bind_some,Zbz,Option.bind_some,ZcL l _ _ hl,Option.bind_some,ZiX l hl,Option.bind_some]
  have e:tr (ZfK l)=(within (l.length:Int) 1 4&&allIn l 0 100000&&tr (Inc l)):=by
    refine Zqe ?_
    simp only [Bool.and_eq_true,within_iff,Zkw,Qs,ZfK]
    exact ⟨fun ⟨⟨⟨a,b⟩,c⟩,d⟩=>⟨by omega,by omega,c,d⟩,fun ⟨a,b,c,d⟩=>⟨⟨⟨by omega,by omega⟩,c⟩,d⟩⟩
  rw [e]
  cases within (l.length:Int) 1 4<;>cases allIn l 0 100000<;>cases tr (Inc l)<;>rfl
theorem Zih (l:List Int) (hl:Len l):Ze5 l=some (tr (ZfK l)):=by
  unfold Ze5
  have h4:l.length≤4611686018427387904:=hl
  rw [J4 hl (fun k x=>(0≤x∧x≤100000)∧(0<k→∀ y,l[k-1]?=some y→y<x)) (bad:=false) (good:=decide (1≤l.length∧l.length≤4))
    (fun k x hx hk _=>by
      simp only [Zd1,show (k:Int)<(l.length:Int) from by omega,if_true,Zu,hx,Option.bind_some,ZdS]
      by_cases hw:within x 0 100000=true
      · rw [if_pos hw]
        by_cases h0:0<k
        · obtain ⟨y,hy⟩:∃ y,l[k-1]?=some y:=⟨_,List.getElem?_eq_getElem (by omega)⟩
          have e1:IntKind.i64.wrap ((k:Int)-1)=((k-1:Nat):Int):=by rw [V7 (by omega) (by omega)];omega
          rw [if_pos (by omega),e1,Zu,hy,Option.bind_some]
          refine ⟨fun h=>?_,fun h=>?_⟩
          · rw [if_neg (by have:=h.2 h0 y rfl;omega)]
          · rw [if_pos]
            rcases Int.lt_or_le y x with h' | h'
            · exact absurd ⟨(within_iff _ _ _).1 hw,fun _ z hz=>by injection hz with hz;subst hz;exact h'⟩ h
            · exact h'
        · rw [if_neg (by omega)]
          exact ⟨fun _=>rfl,fun h=>absurd ⟨(within_iff _ _ _).1 hw,fun h'=>absurd h' h0⟩ h⟩
      · rw [if_neg hw]
        exact ⟨fun h=>absurd ((within_iff _ _ _).2 h.1) hw,fun _=>rfl⟩)
    (fun _=>by
      simp only [Zd1,Int.lt_irrefl,if_false]
      by_cases h1:1≤l.length
      · rw [if_pos (by omega)]
        congr 2
        rw [decide_eq_decide];omega
      · rw [if_neg (by omega)]
        simp [h1])]
  congr 1
  refine Zeq ?_
  rw [Qs]
  by_cases h:Zgw l (fun k x=>(0≤x∧x≤100000)∧(0<k→∀ y,l[k-1]?=some y→y<x))
  · rw [Vq h,decide_eq_true_eq]
    constructor
    · rintro ⟨h1,h2⟩
      refine ⟨h1,h2,fun x hx=>?_,fun k x y hx hy=>?_⟩
      · obtain ⟨k,hk⟩:=List.mem_iff_getElem?.1 hx
        exact (h k x hk).1
      · exact (h (k+1) y hy).2 (by omega) x (by simpa using hx)
    · intro hh
      exact ⟨hh.1,hh.2.1⟩
  · rw [Qq h]
    constructor
    · intro hh;cases hh
    · intro hh
      refine absurd ?_ h
      intro k x hk
      refine ⟨hh.2.2.1 x (List.mem_of_getElem? hk),fun h0 y hy=>?_⟩
      exact hh.2.2.2 (k-1) y x hy (by rw [show k-1+1=k by omega];exact hk)
def Zew (t:Zx):Prop:=ZfK (Zx.Zgn t)∧ZfK (Zx.Loads t)∧(Zx.Values t).length=(Zx.Zgn t).length*(Zx.Loads t).length∧ZiB (Zx.Values t) (-1000000) 1000000
def ZxW (t:Zx):Prop:=Len (Zx.Zgn t)∧Len (Zx.Loads t)∧Len (Zx.Values t)
theorem ZfK.mul {a b:List Int} (ha:ZfK a) (hb:ZfK b):a.length*b.length≤16:=by
  have h1:=ha.2.1
  have h2:=hb.2.1
  calc a.length*b.length≤4*4:=Nat.mul_le_mul h1 h2
    _=16:=rfl
theorem ZsF {a b:List Int} (ha:ZfK a) (hb:ZfK b):IntKind.i64.wrap ((a.length:Int)*(b.length:Int))=((a.length*b.length:Nat):Int):=by
  have:=ha.mul hb
  have e:(a.length:Int)*(b.length:Int)=((a.length*b.length:Nat):Int):=by simp
  rw [e,V7 (by omega) (by omega)]
theorem ZnM (t:Zx) (h:ZxW t):Zdy t=some (tr (Zew t)):=by
  unfold Zdy
  rw [Zjr _ h.1,Option.bind_some]
  by_cases h1:ZfK (Zx.Zgn t)
  · rw [if_pos (YL h1),Zjr _ h.2.1,Option.bind_some]
    by_cases h2:ZfK (Zx.Loads t)
    · rw [if_pos (YL h2),ZsF h1 h2]
      by_cases h3:(Zx.Values t).length=(Zx.Zgn t).length*(Zx.Loads t).length
      · rw [if_pos (by rw [h3]),ZcL _ _ _ h.2.2,Option.bind_some]
        congr 1
        refine Zeq ?_
        rw [Zkw,Qs]
        exact ⟨fun h4=>⟨h1,h2,h3,h4⟩,fun h4=>h4.2.2.2⟩
      · rw [if_neg (by omega),Yk (fun hh=>h3 hh.2.2.1)]
    · rw [if_neg (by rw [Yk h2];simp),Yk (fun hh=>h2 hh.2.1)]
  · rw [if_neg (by rw [Yk h1];simp),Yk (fun hh=>h1 hh.1)]
theorem ZnR (t:Zx) (h:ZxW t):ZdN t=some (tr (Zew t)):=by
  unfold ZdN
  rw [Zih _ h.1,Option.bind_some]
  by_cases h1:ZfK (Zx.Zgn t)
  · rw [if_pos (YL h1),Zih _ h.2.1,Option.bind_some]
    by_cases h2:ZfK (Zx.Loads t)
    · rw [if_pos (YL h2),ZsF h1 h2]
      by_cases h3:(Zx.Values t).length=(Zx.Zgn t).length*(Zx.Loads t).length
      · rw [if_pos (by rw [h3]),J4 h.2.2 (fun k x=>-1000000≤x∧x≤1000000) (bad:=false) (good:=true)
          (fun k x hx hk _=>by
            simp only [Zay,show (k:Int)<((Zx.Values t).length:Int) from by omega,if_true,Zu,hx,Option.bind_some,ZdS,within_iff]
            exact ⟨fun hh=>by rw [if_pos hh],fun hh=>by rw [if_neg hh]⟩)
          (fun _=>by simp only [Zay,Int.lt_irrefl,if_false]),Zkv]
        congr 1
        refine V9 ⟨fun h4=>⟨h1,h2,h3,fun x hx=>?_⟩,fun h4 k x hx=>h4.2.2.2 x (List.mem_of_getElem? hx)⟩
        obtain ⟨k,hk⟩:=List.mem_iff_getElem?.1 hx
        exact h4 k x hk
      · rw [if_neg (by omega),Yk (fun hh=>h3 hh.2.2.1)]
    · rw [if_neg (by rw [Yk h2];simp),Yk (fun hh=>h2 hh.2.1)]
  · rw [if_neg (by rw [Yk h1];simp),Yk (fun hh=>h1 hh.1)]
theorem Zpy (x:Int) (l:List Int) (hl:Len (x::l)):XE (x::l)=some (l.foldl min x):=by
  unfold XE
  have h4:(x::l).length≤4611686018427387904:=hl
  have e1:¬(((x::l).length:Int)<1):=by simp only [List.length_cons];omega
  have e2:atI (x::l) (0:Int)=some x:=rfl
  rw [if_neg e1,e2,Option.bind_some]
  refine Xo l.length (fun k v=>v.1=(l.take k).foldl min x∧v.2.1=(((k+1:Nat)):Int)) _ ⟨by simp,rfl⟩ ?_ ?_
  · rintro k ⟨m,i,⟨⟩⟩ hk ⟨hm,hi⟩
    simp only at hm hi
    subst hm;subst hi
    have hx:l[k]?=some l[k]:=List.getElem?_eq_getElem hk
    have hx1:(x::l)[k+1]?=some l[k]:=by simp
    simp only [Xc,Zu,hx1,Option.bind_some,show ((k+1:Nat):Int)<((x::l).length:Int) from by simp;omega,if_true]
    refine .inl ⟨_,rfl,?_,?_⟩
    · rw [Yt hx,List.foldl_append];rfl
    · simp only [List.length_cons] at h4
      show IntKind.i64.wrap (((k+1:Nat):Int)+1)=((k+1+1:Nat):Int)
      rw [V7 (by omega) (by omega)];omega
  · rintro ⟨m,i,⟨⟩⟩ ⟨hm,hi⟩
    simp only at hm hi
    subst hm;subst hi
    rw [List.take_length]
    simp only [Xc,show ¬(((l.length+1:Nat):Int)<((x::l).length:Int)) from by simp,if_false]
theorem Zj9 (x:Int) (l:List Int):l.foldl min x<0↔x<0∨∃ y∈l,y<0:=by
  induction l generalizing x with
  | nil=>simp
  | cons y r ih =>
    simp only [List.foldl_cons,ih,List.mem_cons,exists_eq_or_imp]
    rw [show min x y<0↔x<0∨y<0 by omega,or_assoc]
def Ze7 (l:List Zx) (pos:Bool):Prop:=l.length=2∧∀ t∈l,Zew t∧(pos=true→∀ v∈Zx.Values t,0≤v)
theorem Zew.some {t:Zx} (h:Zew t):∃ x l,Zx.Values t=x::l:=by
  have h1:=h.1.1
  have h2:=h.2.1.1
  have h3:=h.2.2.1
  have:1*1≤(Zx.Zgn t).length*(Zx.Loads t).length:=Nat.mul_le_mul h1 h2
  cases hv:Zx.Values t with
  | nil=>rw [hv] at h3;simp at h3;omega
  | cons x l=>exact ⟨x,l,rfl⟩
theorem ZiW (t:Zx) (pos:Bool) (h:ZxW t):Qd t pos=some (! tr (Zew t∧(pos=true→∀ v∈Zx.Values t,0≤v))):=by
  unfold Qd
  rw [ZnM _ h,Option.bind_some]
  by_cases h1:Zew t
  · rw [if_pos (YL h1)]
    cases pos
    · rw [if_neg (by simp),YL ⟨h1,fun e=>by cases e⟩];rfl
    · obtain ⟨x,l,hv⟩:=h1.some
      have hlen:=h.2.2
      rw [if_pos rfl,hv]
      rw [hv] at hlen
      rw [Zpy x l hlen,Option.bind_some]
      congr 1
      refine Zeq ?_
      rw [decide_eq_true_eq,Zj9,Bool.not_eq_true',←Bool.not_eq_true,Qs]
      constructor
      · rintro (hh | ⟨y,hy,hh⟩) ⟨_,hall⟩
        · have:=hall rfl x (by simp);omega
        · have:=hall rfl y (by simp [hy]);omega
      · intro hh
        apply Classical.byContradiction
        intro hn
        refine hh ⟨h1,fun _ v hvm=>?_⟩
        rcases List.mem_cons.1 hvm with rfl | hvm
        · exact Int.not_lt.1 fun hlt=>hn (.inl hlt)
        · exact Int.not_lt.1 fun hlt=>hn (.inr ⟨v,hvm,hlt⟩)
  · rw [if_neg (by rw [Yk h1];simp),Yk (fun hh=>h1 hh.1)];rfl
def ZxC (l:List Zx):Prop:=Len l∧∀ t∈l,ZxW t
theorem ZeH (l:List Zx) (pos:Bool) (h:ZxC l):Jc l pos=some (tr (Ze7 l pos)):=by
  unfold Jc
  by_cases h2:l.length=2
  · rw [if_pos (by omega),Qh h.1 (fun t=>! tr (Zew t∧(pos=true→∀ v∈Zx.Values t,0≤v))) (fun t ht=>ZiW t pos (h.2 t ht)),Option.bind_some]
    congr 1
    refine Zeq ?_
    rw [Bool.not_eq_true',List.any_eq_false,Qs]
    simp only [Bool.not_eq_true',Bool.not_eq_false,Qs,Bool.not_eq_true]
    exact ⟨fun hh=>⟨h2,hh⟩,fun hh=>hh.2⟩
  · rw [if_neg (by omega),Yk (fun hh=>h2 hh.1)]
end Go.Proofs.YtfndhpjedmopdaaGreatDoor
/-
  Plain laws: pins, arcs, cells.
-/
namespace Go.Proofs.YtfndhpjedmopdaaGreatDoor
set_option linter.unusedVariables false
set_option linter.unusedSimpArgs false
open Go Go.Sx
theorem ZiP {α τ ρ:Type} {l:List α} (pk:Nat→τ) (P:Nat→α→Prop) {step:τ→Option (τ ⊕ ρ)} {bad good:ρ}
    (hs:∀ (k:Nat) (x:α),l[k]?=some x→k<l.length→(∀ (j:Nat) (y:α),j<k→l[j]?=some y→P j y)→(P k x→step (pk k)=some (.inl (pk (k+1))))∧(¬P k x→step (pk k)=some (.inr bad)))
    (hx:Zgw l P→step (pk l.length)=some (.inr good)):Zt step (pk 0)=some (sel (Zgw l P) good bad):=by
  refine Xo l.length (fun k v=>v=pk k∧∀ (j:Nat) (y:α),j<k→l[j]?=some y→P j y) _ ⟨rfl,fun j y hj=>by omega⟩ ?_ ?_
  · rintro k v hk ⟨rfl,hS⟩
    have hx:l[k]?=some l[k]:=List.getElem?_eq_getElem hk
    obtain ⟨h1,h2⟩:=hs k _ hx hk hS
    by_cases hP:P k l[k]
    · refine .inl ⟨_,h1 hP,rfl,fun j y hj hy=>?_⟩
      by_cases hjk:j<k
      · exact hS j y hjk hy
      · have:j=k:=by omega
        subst this
        rw [hx] at hy;injection hy with hy;subst hy
        exact hP
    · right
      rw [h2 hP,Qq (fun h=>hP (h k _ hx))]
  · rintro v ⟨rfl,hS⟩
    have hA:Zgw l P:=fun k x hk=>hS k x (List.getElem?_eq_some_iff.1 hk).1 hk
    rw [hx hA,Vq hA]
theorem YF {α τ ρ:Type} {l:List α} (pk:Nat→τ) {step:τ→Option (τ ⊕ ρ)} {good:ρ}
    (hs:∀ (k:Nat) (x:α),l[k]?=some x→k<l.length→step (pk k)=some (.inl (pk (k+1)))) (hx:step (pk l.length)=some (.inr good)):Zt step (pk 0)=some good:=by
  have:=ZiP (l:=l) pk (fun _ _=>True) (step:=step) (bad:=good) (good:=good) (fun k x h1 h2 _=>⟨fun _=>hs k x h1 h2,fun h=>absurd trivial h⟩) (fun _=>hx)
  rw [this,Vq (show Zgw l (fun _ _=>True) from fun _ _ _=>trivial)]
theorem ZnL {ρ:Type} (n:Nat) (hn:n≤4611686018427387904) (P:Nat→Prop) {step:Int×Unit→Option ((Int×Unit) ⊕ ρ)} {bad good:ρ}
    (hs:∀ k:Nat,k<n→(P k→step ((k:Int),())=some (.inl (IntKind.i64.wrap ((k:Int)+1),())))∧(¬P k→step ((k:Int),())=some (.inr bad)))
    (hx:(∀ j,j<n→P j)→step ((n:Int),())=some (.inr good)):Zt step ((0:Int),())=some (sel (∀ j,j<n→P j) good bad):=by
  have:=ZsI (ρ:=ρ) 0 n (by omega) hn P (step:=step) (bad:=bad) (good:=good) (fun k _ h _=>hs k h) (fun h=>hx (fun j hj=>h j (by omega) hj))
  refine (show Zt step ((0:Int),())=_ from this).trans ?_
  congr 1
  have e:(∀ j,0≤j→j<n→P j)↔(∀ j,j<n→P j):=⟨fun h j hj=>h j (by omega) hj,fun h j _ hj=>h j hj⟩
  rw [propext e]
theorem XK {t:Ty} {l:List t.den} (h:sm (.sl t) l):Len l:=by
  have h1:(l.length:Int)≤1048576:=h.1
  show l.length≤4611686018427387904
  omega
theorem Zh1 {s:List UInt8} (h:sm .str s):s.length≤4611686018427387904:=by
  have h1:(s.length:Int)≤1048576:=h
  omega
theorem ZsJ {t:Ty} {l:List t.den} (h:sm (.sl t) l) {x:t.den} (hx:x∈l):sm t x:=h.2 x hx
theorem ZaM {t:Ty} {l:List t.den} (h:sm (.sl t) l) {k:Nat} {x:t.den} (hx:l[k]?=some x):sm t x:=h.2 x (List.mem_of_getElem? hx)
theorem Zm {t:Ty} {l:List t.den} (h:sm (.sl t) l):l.length≤1048576:=by
  have h1:(l.length:Int)≤1048576:=h.1
  omega
theorem Zs9 {t:Zx} (h:sm YP t):ZxW t:=⟨XK (t:=.int .i64) h.1,XK (t:=.int .i64) h.2.1,XK (t:=.int .i64) h.2.2.1⟩
theorem ZgV {l:List Zx} (h:sm (.sl YP) l):ZxC l:=⟨XK h,fun t ht=>Zs9 (ZsJ h ht)⟩
theorem Zjy (t:Zx) (h:ZxW t):∃ r,Zc8 t=some r∧(Zew t→r.2=0∧(r.1.1<0↔∃ v∈Zx.Values t,v<0))∧(¬Zew t→r.2=1):=by
  unfold Zc8
  rw [ZnR _ h,Option.bind_some]
  by_cases h1:Zew t
  · rw [if_pos (YL h1)]
    obtain ⟨x,l,hv⟩:=h1.some
    have h4:(x::l).length≤4611686018427387904:=by rw [←hv];exact h.2.2
    have e2:atI (Zx.Values t) (0:Int)=some x:=by rw [hv];rfl
    rw [e2,Option.bind_some]
    have:=YF (l:=l) (ρ:=Yh×Int) (fun k=>((((k+1:Nat)):Int),(l.take k).foldl min x,(l.take k).foldl max x,())) (step:=fun v=>JY t v.1 v.2.1 v.2.2.1) (good:=((l.foldl min x,l.foldl max x,()),0))
      (fun k y hy hk=>by
        have hx1:(x::l)[k+1]?=some y:=by simpa using hy
        simp only [List.length_cons] at h4
        simp only [JY,hv,Zu,hx1,Option.bind_some,show ((k+1:Nat):Int)<((x::l).length:Int) from by simp;omega,if_true]
        rw [Yt hy,List.foldl_append,List.foldl_append,V7 (by omega) (by omega)]
        rfl)
      (by
        simp only [JY,hv,List.take_length,show ¬(((l.length+1:Nat):Int)<((x::l).length:Int)) from by simp,if_false])
    refine ⟨_,this,fun _=>⟨rfl,?_⟩,fun hn=>absurd h1 hn⟩
    rw [hv]
    refine (Zj9 x l).trans ?_
    simp
  · rw [if_neg (by rw [Yk h1];simp)]
    exact ⟨_,rfl,fun hn=>absurd hn h1,fun _=>rfl⟩
theorem ZeN (l:List Zx) (pos:Bool) (h:ZxC l):Yw l pos=some (tr (Ze7 l pos)):=by
  unfold Yw
  by_cases h2:l.length=2
  · rw [if_pos (by omega),J4 h.1 (fun k t=>Zew t∧(pos=true→∀ v∈Zx.Values t,0≤v)) (bad:=false) (good:=true)
      (fun k t hx hk _=>by
        obtain ⟨r,hr,hr1,hr2⟩:=Zjy t (h.2 t (List.mem_of_getElem? hx))
        simp only [VP,show (k:Int)<2 from by omega,if_true,Zu,hx,Option.bind_some,hr]
        by_cases ht:Zew t
        · obtain ⟨e1,e2⟩:=hr1 ht
          rw [if_pos e1]
          cases pos
          · simp only [Bool.false_eq_true,if_false]
            exact ⟨fun _=>trivial,fun hn=>absurd ⟨ht,fun e=>by cases e⟩ hn⟩
          · simp only [if_true]
            refine ⟨fun hh=>?_,fun hn=>?_⟩
            · rw [if_neg]
              intro hlt
              obtain ⟨v,hv,hv0⟩:=e2.1 hlt
              have:=hh.2 trivial v hv
              omega
            · rw [if_pos]
              apply Classical.byContradiction
              intro hlt
              refine hn ⟨ht,fun _ v hv=>?_⟩
              exact Int.not_lt.1 fun hv0=>hlt (e2.2 ⟨v,hv,hv0⟩)
        · have e1:=hr2 ht
          rw [if_neg (by rw [e1];decide)]
          exact ⟨fun hh=>absurd hh.1 ht,fun _=>rfl⟩)
      (fun _=>by simp only [VP,h2];rfl),Zkv]
    congr 1
    refine V9 ⟨fun hh=>⟨h2,fun t ht=>?_⟩,fun hh k t hk=>hh.2 t (List.mem_of_getElem? hk)⟩
    obtain ⟨k,hk⟩:=List.mem_iff_getElem?.1 ht
    exact hh k t hk
  · rw [if_neg (by omega),Yk (fun hh=>h2 hh.1)]
def Zfb (l:List Yz):List (List UInt8):=l.map Yz.Name
def Zl6 (l:List Yz):Nat:=l.countP (fun p=>Yz.Clock p)
def ZqE (n k:Nat) (p:Yz):Prop:=(0≤Yz.Cap p∧Yz.Cap p≤500)∧(k+1=n→Yz.Dir p=2∧Yz.Cap p=0∧Yz.Clock p=false)∧(k+1<n→Yz.Dir p=1)
def Zi5 (l:List Yz):Prop:=2≤l.length∧l.length≤5∧VK (Zfb l) l.length∧Zgw l (ZqE l.length)
theorem Znc (l:List Yz) (h:sm (.sl ZdO) l):ZdL l=some (tr (Zi5 l)):=by
  unfold ZdL
  have hs:=Zm h
  have:=ZiP (l:=l) (ρ:=Bool) (fun k=>((Zfb l).take k,(k:Int),())) (ZqE l.length) (step:=fun v=>QC l v.1 v.2.1) (bad:=false) (good:=tr (2≤l.length∧l.length≤5∧VK (Zfb l) l.length))
    (fun k p hx hk _=>by
      have hn:(Zfb l)[k]?=some (Yz.Name p):=by simp [Zfb,hx]
      have e1:IntKind.i64.wrap ((l.length:Int)-1)=((l.length-1:Nat):Int):=by rw [V7 (by omega) (by omega)];omega
      simp only [QC,show (k:Int)<(l.length:Int) from by omega,if_true,Zu,hx,Option.bind_some,e1]
      rw [Zh (by simp only [List.length_take,List.length_singleton,Zfb,List.length_map];omega),Yt hn,V7 (by omega) (by omega)]
      unfold ZqE
      by_cases hlast:(k:Int)=((l.length-1:Nat):Int)
      · rw [if_pos hlast]
        have hk1:k+1=l.length:=by omega
        constructor
        · rintro ⟨_,h2,_⟩
          obtain ⟨a,b,c⟩:=h2 hk1
          rw [if_pos a,if_pos b,if_neg (by rw [c];simp)]
          rfl
        · intro hh
          split
          · split
            · split
              · rfl
              · rename_i a b c
                exact absurd ⟨by omega,fun _=>⟨a,b,by simpa using c⟩,fun h'=>by omega⟩ hh
            · rfl
          · rfl
      · rw [if_neg hlast,Zbz]
        have hk1:k+1<l.length:=by omega
        simp only [Option.bind_some,within_iff]
        constructor
        · rintro ⟨h1,_,h3⟩
          rw [if_pos (h3 hk1),if_pos h1]
          rfl
        · intro hh
          split
          · split
            · rename_i a b
              exact absurd ⟨b,fun h'=>by omega,fun _=>a⟩ hh
            · rfl
          · rfl)
    (fun hA=>by
      have e0:(Zfb l).take l.length=Zfb l:=by rw [show l.length=(Zfb l).length by simp [Zfb],List.take_length]
      simp only [QC,Int.lt_irrefl,if_false,e0,Zbz,Option.bind_some,show QL l=some (l.length:Int) from rfl]
      have hlen:(Zfb l).length=l.length:=by simp [Zfb]
      by_cases hw:within (l.length:Int) 2 5=true
      · rw [if_pos hw,Zbr _ (by rw [hlen];omega),Option.bind_some,hlen]
        rw [within_iff] at hw
        congr 2
        exact V9 ⟨fun hh=>⟨by omega,by omega,hh⟩,fun hh=>hh.2.2⟩
      · rw [if_neg hw,Yk]
        intro hh
        exact hw ((within_iff _ _ _).2 (by omega)))
  refine (show Zt (fun v=>QC l v.1 v.2.1) (([]:List (List UInt8)),(0:Int),())=_ from this).trans ?_
  congr 1
  refine Zeq ?_
  rw [Qs]
  by_cases hA:Zgw l (ZqE l.length)
  · rw [Vq hA,Qs]
    exact ⟨fun hh=>⟨hh.1,hh.2.1,hh.2.2,hA⟩,fun hh=>⟨hh.1,hh.2.1,hh.2.2.1⟩⟩
  · rw [Qq hA]
    exact ⟨fun hh=>(by cases hh),fun hh=>absurd hh.2.2.2 hA⟩
end Go.Proofs.YtfndhpjedmopdaaGreatDoor
/-
  Plain laws: pins by the reference; arcs.
-/
namespace Go.Proofs.YtfndhpjedmopdaaGreatDoor
set_option linter.unusedVariables false
set_option linter.unusedSimpArgs false
open Go Go.Sx
theorem Zrb {n:Nat} (h:n≤1048576) (h1:1≤n):IntKind.i64.wrap ((n:Int)-1)=((n-1:Nat):Int):=by rw [V7 (by omega) (by omega)];omega
theorem Q5 {n:Nat} (h:n≤1048576):IntKind.i64.wrap ((n:Int)+1)=((n+1:Nat):Int):=by rw [V7 (by omega) (by omega)];omega
theorem Zjt {l:List Yz} {k:Nat} {s:List UInt8}:s ∉ (Zfb l).take k↔∀ (j:Nat) (q:Yz),j<k→l[j]?=some q→Yz.Name q≠s:=by
  constructor
  · intro h j q hj hq e
    refine h (List.mem_iff_getElem?.2 ⟨j,?_⟩)
    rw [List.getElem?_take,if_pos hj]
    simp [Zfb,hq,e]
  · intro h hm
    obtain ⟨j,hj⟩:=List.mem_iff_getElem?.1 hm
    rw [List.getElem?_take] at hj
    split at hj
    · rename_i hjk
      simp only [Zfb,List.getElem?_map,Option.map_eq_some_iff] at hj
      obtain ⟨q,hq,e⟩:=hj
      exact h j q hjk hq e
    · cases hj
theorem Zm8 (c:Zi) (h:sm (.sl ZdO) (Zi.Yx c)):Zf6 c=some (sel (Zi5 (Zi.Yx c)) ((Zl6 (Zi.Yx c):Int),true) ((0:Int),false)):=by
  unfold Zf6
  have hs:=Zm h
  by_cases h2:((Zi.Yx c).length:Int)<2
  · rw [if_pos h2,Qq (fun hh=>by have:=hh.1;omega)]
  by_cases h5:(5:Int)<((Zi.Yx c).length:Int)
  · rw [if_neg h2,if_pos h5,Qq (fun hh=>by have:=hh.2.1;omega)]
  rw [if_neg h2,if_neg h5]
  have e1:IntKind.i64.wrap (((Zi.Yx c).length:Int)-1)=(((Zi.Yx c).length-1:Nat):Int):=Zrb hs (by omega)
  have:=ZiP (l:=Zi.Yx c) (ρ:=Int×Bool) (fun k=>((((Zi.Yx c).take k).countP (fun p=>Yz.Clock p):Int),(k:Int),()))
    (fun k p=>(Za6 (Yz.Name p)=true∧∀ (j:Nat) (q:Yz),j<k→(Zi.Yx c)[j]?=some q→Yz.Name q≠Yz.Name p)∧ZqE (Zi.Yx c).length k p) (step:=fun v=>ZaC c v.1 v.2.1) (bad:=((0:Int),false)) (good:=((Zl6 (Zi.Yx c):Int),true))
    (fun k p hx hk _=>by
      have hcnt:((Zi.Yx c).take k).countP (fun p=>Yz.Clock p)≤5:=by
        have h1:=List.countP_le_length (p:=fun p=>Yz.Clock p) (l:=(Zi.Yx c).take k)
        rw [List.length_take] at h1;omega
      have hnext:((Zi.Yx c).take (k+1)).countP (fun p=>Yz.Clock p)=((Zi.Yx c).take k).countP (fun p=>Yz.Clock p)+if Yz.Clock p=true then 1 else 0:=by
        rw [Yt hx,List.countP_append];simp [List.countP_cons]
      have hname:(Yz.Name p).length≤4611686018427387904:=Zh1 (ZaM h hx).1
      have rest:∀ (v:Int),VH c v (k:Int) p (k:Int)=sel (Za6 (Yz.Name p)=true∧ZqE (Zi.Yx c).length k p) (some (Sum.inr (Sum.inl (if Yz.Clock p=true then IntKind.i64.wrap (v+1) else v,((k+1:Nat):Int),())))) (some (Sum.inr (Sum.inr (0,false)))):=by
        intro v
        simp only [VH,Int.lt_irrefl,if_false,Zek _ hname,ZdS,Option.bind_some,e1,Q5 (show k≤1048576 by omega),within_iff]
        unfold ZqE
        by_cases hn:Za6 (Yz.Name p)=true
        · by_cases hcap:0≤Yz.Cap p∧Yz.Cap p≤500
          · by_cases hlast:k+1=(Zi.Yx c).length
            · have e2:(k:Int)=(((Zi.Yx c).length-1:Nat):Int):=by omega
              have e3:¬((k:Int)<(((Zi.Yx c).length-1:Nat):Int)):=by omega
              have e4:¬(k+1<(Zi.Yx c).length):=by omega
              rw [if_pos hn,if_pos hcap,if_pos e2]
              by_cases a:Yz.Dir p=2
              · by_cases b:Yz.Cap p=0
                · by_cases d:Yz.Clock p=true
                  · rw [if_pos a,if_pos b,if_pos d,Qq]
                    rintro ⟨_,_,h',_⟩
                    have:=(h' hlast).2.2
                    rw [d] at this;cases this
                  · rw [if_pos a,if_pos b,if_neg d,if_neg e3,if_neg d,Vq ⟨hn,hcap,fun _=>⟨a,b,by simpa using d⟩,fun h'=>absurd h' e4⟩]
                    simp [d]
                · rw [if_pos a,if_neg b,Qq]
                  rintro ⟨_,_,h',_⟩
                  exact b (h' hlast).2.1
              · rw [if_neg a,Qq]
                rintro ⟨_,_,h',_⟩
                exact a (h' hlast).1
            · have e2:¬(k:Int)=(((Zi.Yx c).length-1:Nat):Int):=by omega
              have e3:(k:Int)<(((Zi.Yx c).length-1:Nat):Int):=by omega
              have e4:k+1<(Zi.Yx c).length:=by omega
              rw [if_pos hn,if_pos hcap,if_neg e2,if_pos e3]
              by_cases a:Yz.Dir p=1
              · rw [if_pos a,Vq ⟨hn,hcap,fun h'=>absurd h' hlast,fun _=>a⟩]
                by_cases d:Yz.Clock p=true
                · rw [if_pos d,if_pos d]
                · rw [if_neg d,if_neg d]
              · rw [if_neg a,Qq]
                rintro ⟨_,_,_,h'⟩
                exact a (h' e4)
          · rw [if_pos hn,if_neg hcap,Qq (fun hh=>hcap hh.2.1)]
        · rw [if_neg hn,Qq (fun hh=>hn hh.1)]
      have inner:∀ (v:Int) (good:(Int×Int×Unit) ⊕ (Int×Bool)),((∀ (j:Nat) (q:Yz),j<k→(Zi.Yx c)[j]?=some q→Yz.Name q≠Yz.Name p)→VH c v (k:Int) p (k:Int)=some (.inr good))→
          Zt (fun v'=>VH c v (k:Int) p v'.1) ((0:Int),())=some (sel (∀ j,j<k→∀ q,(Zi.Yx c)[j]?=some q→Yz.Name q≠Yz.Name p) good (.inr (0,false))):=by
        intro v good hg
        refine ZnL k (by omega) (fun j=>∀ q,(Zi.Yx c)[j]?=some q→Yz.Name q≠Yz.Name p) (fun j hj=>?_) (fun hh=>hg (fun j q hj hq=>hh j hj q hq))
        obtain ⟨q,hq⟩:∃ q,(Zi.Yx c)[j]?=some q:=⟨_,List.getElem?_eq_getElem (by omega)⟩
        simp only [VH,show (j:Int)<(k:Int) from by omega,if_true,Zu,hq,Option.bind_some]
        refine ⟨fun hh=>by rw [if_neg (hh q rfl)],fun hh=>?_⟩
        rw [if_pos]
        apply Classical.byContradiction
        intro hne
        exact hh (fun q' hq'=>by injection hq' with hq';subst hq';exact hne)
      simp only [ZaC,show (k:Int)<((Zi.Yx c).length:Int) from by omega,if_true,Zu,hx,Option.bind_some]
      constructor
      · rintro ⟨⟨a,b⟩,d⟩
        rw [inner _ (.inl (((((Zi.Yx c).take (k+1)).countP (fun p=>Yz.Clock p):Nat):Int),((k+1:Nat):Int),())) (fun _=>by
          rw [rest,Vq ⟨a,d⟩,hnext]
          by_cases hc:Yz.Clock p=true
          · rw [if_pos hc,if_pos hc,Q5 (by omega)]
          · rw [if_neg hc,if_neg hc];rfl),Vq (fun j hj q hq=>b j q hj hq)]
      · intro hh
        rw [inner _ (.inr (0,false)) (fun hn=>by
          rw [rest,Qq (fun h'=>hh ⟨⟨h'.1,hn⟩,h'.2⟩)])]
        by_cases hP:∀ j,j<k→∀ q,(Zi.Yx c)[j]?=some q→Yz.Name q≠Yz.Name p
        · rw [Vq hP]
        · rw [Qq hP])
    (fun _=>by simp only [ZaC,Int.lt_irrefl,if_false,List.take_length];rfl)
  refine (show Zt (fun v=>ZaC c v.1 v.2.1) ((0:Int),(0:Int),())=_ from this).trans ?_
  congr 1
  have e:Zgw (Zi.Yx c) (fun k p=>(Za6 (Yz.Name p)=true∧∀ (j:Nat) (q:Yz),j<k→(Zi.Yx c)[j]?=some q→Yz.Name q≠Yz.Name p)∧ZqE (Zi.Yx c).length k p)↔Zi5 (Zi.Yx c):=by
    constructor
    · intro hA
      refine ⟨by omega,by omega,fun j s hj hs'=>?_,fun k p hp=>(hA k p hp).2⟩
      simp only [Zfb,List.getElem?_map,Option.map_eq_some_iff] at hs'
      obtain ⟨q,hq,rfl⟩:=hs'
      exact ⟨(hA j q hq).1.1,Zjt.2 (hA j q hq).1.2⟩
    · intro hh k p hp
      have hk:=(List.getElem?_eq_some_iff.1 hp).1
      have hn:=hh.2.2.1 k (Yz.Name p) hk (by simp [Zfb,hp])
      exact ⟨⟨hn.1,Zjt.1 hn.2⟩,hh.2.2.2 k p hp⟩
  rw [propext e]
end Go.Proofs.YtfndhpjedmopdaaGreatDoor
/-
  Plain laws: arcs.
-/
namespace Go.Proofs.YtfndhpjedmopdaaGreatDoor
set_option linter.unusedVariables false
set_option linter.unusedSimpArgs false
open Go Go.Sx
def Zpg (l:List Yz) (i:Int):Bool:=match l[i.toNat]? with
  | some p=>Yz.Clock p
  | none=>false
def Zk3 (c:Zi) (a:ZJ):Prop :=
  (0≤ZJ.From a∧ZJ.From a≤((Zi.Yx c).length:Int)-2)∧(0≤ZJ.To a∧ZJ.To a≤((Zi.Yx c).length:Int)-1)∧
  ((ZJ.Kind a=1∧Zpg (Zi.Yx c) (ZJ.From a)=false∧ZJ.To a=((Zi.Yx c).length:Int)-1∧(1≤ZJ.Zcl a∧ZJ.Zcl a≤3)∧Ze7 (ZJ.Delay a) true∧Ze7 (ZJ.ZbU a) true)∨
   ((ZJ.Kind a=2∨ZJ.Kind a=3)∧Zpg (Zi.Yx c) (ZJ.From a)=true∧ZJ.To a=((Zi.Yx c).length:Int)-1∧ZJ.Zcl a=0∧Ze7 (ZJ.Delay a) true∧Ze7 (ZJ.ZbU a) true)∨
   ((ZJ.Kind a=4∨ZJ.Kind a=5)∧Zpg (Zi.Yx c) (ZJ.From a)=true∧ZJ.To a<((Zi.Yx c).length:Int)-1∧Zpg (Zi.Yx c) (ZJ.To a)=false∧ZJ.Zcl a=0∧Ze7 (ZJ.Delay a) false∧(ZJ.ZbU a).length=0))
theorem Zk3.kind {c:Zi} {a:ZJ} (h:Zk3 c a):1≤ZJ.Kind a∧ZJ.Kind a≤5:=by
  rcases h.2.2 with h | h | h
  · have:=h.1;omega
  · have:=h.1;omega
  · have:=h.1;omega
theorem Zyo {P Q:Prop} {m:Option Bool} (hm:m=some (tr Q)):(if tr P=true then m else some false)=some (tr (P∧Q)):=by
  by_cases h:P
  · rw [if_pos (YL h),hm];congr 1;exact V9 ⟨fun q=>⟨h,q⟩,fun q=>q.2⟩
  · rw [if_neg (by rw [Yk h];simp),Yk (fun q=>h q.1)]
theorem Yj {P Q:Prop} {_:Decidable P} {m:Option Bool} (hm:P→m=some (tr Q)):(if P then m else some false)=some (tr (P∧Q)):=by
  by_cases h:P
  · rw [if_pos h,hm h];congr 1;exact V9 ⟨fun q=>⟨h,q⟩,fun q=>q.2⟩
  · rw [if_neg h,Yk (fun q=>h q.1)]
theorem Zhe {P Q:Prop} {_:Decidable P} {m:Option Bool} (hm:¬P→m=some (tr Q)):(if P then some false else m)=some (tr (¬P∧Q)):=by
  by_cases h:P
  · rw [if_pos h,Yk (fun q=>q.1 h)]
  · rw [if_neg h,hm h];congr 1;exact V9 ⟨fun q=>⟨h,q⟩,fun q=>q.2⟩
theorem ZcR {P:Prop} {b:Bool} (h:b=true↔P):some b=some (tr P):=by rw [Zqe h]
theorem JA {m:Option Bool} {P Q:Prop} (h:m=some (tr P)) (hpq:P↔Q):m=some (tr Q):=by rw [h,propext hpq]
theorem Zlr {Q:Prop} (h:¬Q):(some false:Option Bool)=some (tr Q):=by rw [Yk h]
theorem Zbj {P:Prop} {m:Option Bool} (h:m=some (tr P)):(m.bind fun b=>some b)=some (tr P):=by rw [h];rfl
theorem YW {P Q:Prop} {m m2:Option Bool} (h:m=some (tr P)) (h2:P→m2=some (tr Q)):(m.bind fun b=>if b=true then m2 else some false)=some (tr (P∧Q)):=by
  rw [h,Option.bind_some]
  by_cases hp:P
  · rw [if_pos (YL hp),h2 hp];congr 1;exact V9 ⟨fun q=>⟨hp,q⟩,fun q=>q.2⟩
  · rw [if_neg (by rw [Yk hp];simp),Yk (fun q=>hp q.1)]
theorem Zaz (n a b:Int):ZX n a b=some (tr (a≤n∧n≤b)):=by rw [ZdS];exact ZcR (within_iff _ _ _)
theorem VR (n a b:Int):Yd n a b=some (tr (a≤n∧n≤b)):=by rw [Zbz];exact ZcR (within_iff _ _ _)
theorem ZuC {l:List Yz} {i:Int} (h0:0≤i) (h1:i<l.length):∃ p,atI l i=some p∧Zpg l i=Yz.Clock p:=by
  obtain ⟨p,h2,h3⟩:=ZsL h0 h1
  exact ⟨p,h2,by simp [Zpg,h3]⟩
theorem ZoA (c:Zi) (a:ZJ) (hp:sm (.sl ZdO) (Zi.Yx c)) (hd:sm (.sl YP) (ZJ.Delay a)) (hw:sm (.sl YP) (ZJ.ZbU a)) (h2:2≤(Zi.Yx c).length):ZeB c a=some (tr (Zk3 c a)):=by
  unfold ZeB
  have hs:=Zm hp
  have e1:IntKind.i64.wrap (((Zi.Yx c).length:Int)-1)=((Zi.Yx c).length:Int)-1:=V7 (by omega) (by omega)
  have e2:IntKind.i64.wrap (((Zi.Yx c).length:Int)-1-1)=((Zi.Yx c).length:Int)-2:=by rw [V7 (by omega) (by omega)];omega
  rw [e1,e2]
  refine JA (YW (Zaz _ _ _) (fun hF=>YW (Zaz _ _ _) (fun hT=>?_))) (Q:=Zk3 c a) (P:=(0≤ZJ.From a∧ZJ.From a≤((Zi.Yx c).length:Int)-2)∧(0≤ZJ.To a∧ZJ.To a≤((Zi.Yx c).length:Int)-1)∧Zk3 c a) ⟨fun hh=>hh.2.2,fun hh=>⟨hh.1,hh.2.1,hh⟩⟩
  obtain ⟨p,hp1,hp2⟩:=ZuC (l:=Zi.Yx c) hF.1 (by omega)
  rw [hp1,Option.bind_some]
  have hdl:=ZgV hd
  have hsl:=ZgV hw
  have tt:∀ b,(Yw (ZJ.Delay a) b).bind (fun x=>if x=true then (Yw (ZJ.ZbU a) b).bind (fun y=>some y) else some false)=some (tr (Ze7 (ZJ.Delay a) b∧Ze7 (ZJ.ZbU a) b)):=fun b=>YW (ZeN _ _ hdl) (fun _=>Zbj (ZeN _ _ hsl))
  have tz:(Yw (ZJ.Delay a) false).bind (fun x=>if x=true then some (Decidable.decide (((ZJ.ZbU a).length:Int)=(0:Int))) else some false)=some (tr (Ze7 (ZJ.Delay a) false∧(ZJ.ZbU a).length=0)):=YW (ZeN _ _ hdl) (fun _=>ZcR (by rw [decide_eq_true_eq];omega))
  unfold Zk3
  rw [hp2]
  by_cases k1:ZJ.Kind a=1
  · simp only [k1,if_true]
    refine JA (Zhe (fun hc=>Yj (fun hl=>YW (Zaz _ _ _) (fun _=>tt true)))) ?_
    grind
  by_cases k2:ZJ.Kind a=2
  · simp only [k2,if_true,Int.reduceEq,if_false]
    refine JA (Yj (fun hc=>Yj (fun hl=>Yj (fun _=>tt true)))) ?_
    grind
  by_cases k3:ZJ.Kind a=3
  · simp only [k3,if_true,Int.reduceEq,if_false]
    refine JA (Yj (fun hc=>Yj (fun hl=>Yj (fun _=>tt true)))) ?_
    grind
  have chk:(if Yz.Clock p=true then (if ZJ.To a<((Zi.Yx c).length:Int)-1 then (atI (Zi.Yx c) (ZJ.To a)).bind (fun x1=>if Yz.Clock x1=true then some false else if ZJ.Zcl a=0 then (Yw (ZJ.Delay a) false).bind (fun x=>if x=true then some (Decidable.decide (((ZJ.ZbU a).length:Int)=(0:Int))) else some false) else some false) else some false) else some false) =
      some (tr (Yz.Clock p=true∧ZJ.To a<((Zi.Yx c).length:Int)-1∧Zpg (Zi.Yx c) (ZJ.To a)=false∧ZJ.Zcl a=0∧Ze7 (ZJ.Delay a) false∧(ZJ.ZbU a).length=0)):=by
    refine Yj (fun _=>Yj (fun hl=>?_))
    obtain ⟨q,hq1,hq2⟩:=ZuC (l:=Zi.Yx c) hT.1 (by omega)
    rw [hq1,Option.bind_some,hq2]
    refine JA (Zhe (fun _=>Yj (fun _=>tz))) ?_
    simp only [Bool.not_eq_true]
  by_cases k4:ZJ.Kind a=4
  · simp only [k4,if_true,Int.reduceEq,if_false]
    refine JA chk ?_
    grind
  by_cases k5:ZJ.Kind a=5
  · simp only [k5,if_true,Int.reduceEq,if_false]
    refine JA chk ?_
    grind
  · simp only [k1,k2,k3,k4,k5,if_false]
    refine Zlr ?_
    grind
def Ziw (l:List Yz):Int:=ZcQ (fun p=>Yz.Clock p) l
theorem Zko (c:Zi) (h:sm (.sl ZdO) (Zi.Yx c)):ZaS c=some (Ziw (Zi.Yx c)):=by
  unfold ZaS
  rw [Q0 (XK h) (fun p=>Yz.Clock p) (fun p _=>rfl),Option.bind_some]
  rfl
theorem Zds (c:Zi) (h:sm (.sl ZdO) (Zi.Yx c)):VN c=some (((Zi.Yx c).length:Int)-1):=by
  have hs:=Zm h
  show some (IntKind.i64.wrap (((Zi.Yx c).length:Int)-1))=_
  rw [V7 (by omega) (by omega)]
theorem Zft (c:Zi) (i:Int) (h:sm (.sl ZdO) (Zi.Yx c)):Vh c i=some (tr (0≤i∧i≤((Zi.Yx c).length:Int)-2)):=by
  have hs:=Zm h
  unfold Vh
  rw [Zds c h,Option.bind_some,V7 (by omega) (by omega)]
  refine JA (Zbj (VR _ _ _)) ?_
  omega
def Zvo (c:Zi) (a:ZJ):Prop :=
  ((ZJ.Kind a=4∨ZJ.Kind a=5)∧ZJ.Zcl a=0∧(ZJ.ZbU a).length=0∧Ze7 (ZJ.Delay a) false∧ZJ.From a=Ziw (Zi.Yx c)∧0≤ZJ.From a∧(0≤ZJ.To a∧ZJ.To a≤((Zi.Yx c).length:Int)-2)∧ZJ.To a≠ZJ.From a)∨
  (¬(ZJ.Kind a=4∨ZJ.Kind a=5)∧Ze7 (ZJ.Delay a) true∧Ze7 (ZJ.ZbU a) true∧ZJ.To a=((Zi.Yx c).length:Int)-1∧(0≤ZJ.From a∧ZJ.From a≤((Zi.Yx c).length:Int)-2)∧
    ((ZJ.Kind a=1∧Zpg (Zi.Yx c) (ZJ.From a)=false∧(1≤ZJ.Zcl a∧ZJ.Zcl a≤3))∨((ZJ.Kind a=2∨ZJ.Kind a=3)∧Zpg (Zi.Yx c) (ZJ.From a)=true∧ZJ.Zcl a=0)))
theorem Znk (k:Int):Zdv k=some (tr (k=4∨k=5)):=by
  unfold Zdv
  split
  · rename_i h;rw [YL (.inl h)]
  · rename_i h
    exact ZcR (by rw [decide_eq_true_eq];omega)
theorem Zp6 (c:Zi) (a:ZJ) (hp:sm (.sl ZdO) (Zi.Yx c)) (hd:sm (.sl YP) (ZJ.Delay a)) (hw:sm (.sl YP) (ZJ.ZbU a)):ZaP c a=some (tr (Zvo c a)):=by
  unfold ZaP
  have hdl:=ZgV hd
  have hsl:=ZgV hw
  rw [Znk,Option.bind_some]
  by_cases hk:ZJ.Kind a=4∨ZJ.Kind a=5
  · rw [if_pos (YL hk)]
    refine JA (Yj (fun _=>Yj (fun _=>YW (ZeH _ _ hdl) (fun _=>?_)))) (P:=ZJ.Zcl a=0∧((ZJ.ZbU a).length:Int)=0∧Ze7 (ZJ.Delay a) false∧(ZJ.From a=Ziw (Zi.Yx c)∧0≤ZJ.From a∧(0≤ZJ.To a∧ZJ.To a≤((Zi.Yx c).length:Int)-2)∧ZJ.To a≠ZJ.From a)) ?_
    · rw [Zko c hp,Option.bind_some]
      refine Yj (fun _=>Yj (fun _=>YW (Zft c _ hp) (fun _=>ZcR ?_)))
      rw [Bool.not_eq_true',decide_eq_false_iff_not]
    · unfold Zvo
      constructor
      · rintro ⟨x1,x2,x3,x4⟩
        exact .inl ⟨hk,x1,by omega,x3,x4⟩
      · rintro (⟨_,x1,x2,x3,x4⟩ | ⟨x,_⟩)
        · exact ⟨x1,by omega,x3,x4⟩
        · exact absurd hk x
  · rw [if_neg (by rw [Yk hk];simp)]
    refine JA (YW (ZeH _ _ hdl) (fun _=>YW (ZeH _ _ hsl) (fun _=>?_))) (P:=Ze7 (ZJ.Delay a) true∧Ze7 (ZJ.ZbU a) true∧(ZJ.To a=((Zi.Yx c).length:Int)-1∧(0≤ZJ.From a∧ZJ.From a≤((Zi.Yx c).length:Int)-2)∧
      ((ZJ.Kind a=1∧Zpg (Zi.Yx c) (ZJ.From a)=false∧(1≤ZJ.Zcl a∧ZJ.Zcl a≤3))∨((ZJ.Kind a=2∨ZJ.Kind a=3)∧Zpg (Zi.Yx c) (ZJ.From a)=true∧ZJ.Zcl a=0)))) ?_
    · rw [Zds c hp,Option.bind_some]
      refine Yj (fun _=>YW (Zft c _ hp) (fun hF=>?_))
      obtain ⟨p,hp1,hp2⟩:=ZuC (l:=Zi.Yx c) hF.1 (by omega)
      rw [hp1,hp2]
      simp only [Option.bind_some]
      by_cases k1:ZJ.Kind a=1
      · simp only [k1,if_true]
        refine JA (Zhe (fun _=>Zbj (VR _ _ _))) ?_
        grind
      by_cases k2:ZJ.Kind a=2
      · simp only [k2,if_true,Int.reduceEq,if_false]
        refine JA (Yj (fun _=>ZcR (decide_eq_true_iff))) ?_
        grind
      by_cases k3:ZJ.Kind a=3
      · simp only [k3,if_true,Int.reduceEq,if_false]
        refine JA (Yj (fun _=>ZcR (decide_eq_true_iff))) ?_
        grind
      · simp only [k1,k2,k3,if_false]
        refine Zlr ?_
        grind
    · unfold Zvo
      constructor
      · intro x;exact .inr ⟨hk,x⟩
      · rintro (⟨x,_⟩ | ⟨_,x⟩)
        · exact absurd x hk
        · exact x
end Go.Proofs.YtfndhpjedmopdaaGreatDoor
/-
  Plain laws: cells and libraries.
-/
namespace Go.Proofs.YtfndhpjedmopdaaGreatDoor
set_option linter.unusedVariables false
set_option linter.unusedSimpArgs false
open Go Go.Sx
def ZfG (o a:ZJ):Prop:=ZJ.Kind o=ZJ.Kind a∧ZJ.From o=ZJ.From a∧ZJ.To o=ZJ.To a
def Apart (l:List ZJ) (k:Nat) (a:ZJ):Prop:=∀ (j:Nat) (o:ZJ),j<k→l[j]?=some o→¬ZfG o a
structure Zpa (c:Zi):Prop where
  name:(Zi.Name c).length≤4611686018427387904
  pins:sm (.sl ZdO) (Zi.Yx c)
  arcs:sm (.sl Zfc) (Zi.ZaZ c)
  truth:sm (.sl (.int .i64)) (Zi.Truth c)
theorem ZuR {c:Zi} (h:sm X3 c):Zpa c:=⟨Zh1 h.1,h.2.2.1,h.2.2.2.1,h.2.2.2.2.1⟩
theorem ZwP {a:ZJ} (h:sm Zfc a):sm (.sl YP) (ZJ.Delay a)∧sm (.sl YP) (ZJ.ZbU a):=⟨h.2.2.2.2.1,h.2.2.2.2.2.1⟩
theorem ZkP (o a:ZJ):Xi o a=some (tr (ZfG o a)):=by
  unfold Xi ZfG
  exact Yj (fun _=>Yj (fun _=>ZcR decide_eq_true_iff))
theorem Zn9 (c:Zi) (h:Zpa c):Jp c=some (tr ((Zi.ZaZ c).length≤8∧Zgw (Zi.ZaZ c) (fun k a=>Zvo c a∧Apart (Zi.ZaZ c) k a))):=by
  unfold Jp
  have hs:=Zm h.arcs
  rw [J4 (XK h.arcs) (fun k a=>Zvo c a∧Apart (Zi.ZaZ c) k a) (bad:=false) (good:=decide ((Zi.ZaZ c).length≤8))
    (fun k a hx hk _=>by
      obtain ⟨h1,h2⟩:=ZwP (ZaM h.arcs hx)
      simp only [QE,show (k:Int)<((Zi.ZaZ c).length:Int) from by omega,if_true,Zu,hx,Option.bind_some,Zp6 c a h.pins h1 h2]
      by_cases hA:Zvo c a
      · rw [if_pos (YL hA),Zh (by omega),Zh (by omega)]
        simp only [Int.toNat_natCast,Int.toNat_zero,List.drop_zero,Nat.sub_zero]
        rw [Qp (by show ((Zi.ZaZ c).take k).length≤4611686018427387904;rw [List.length_take];omega) (fun o=>tr (ZfG o a)) (fun o _=>ZkP o a),Option.bind_some]
        have e:((Zi.ZaZ c).take k).any (fun o=>tr (ZfG o a))=true↔¬Apart (Zi.ZaZ c) k a:=by
          rw [List.any_eq_true]
          constructor
          · rintro ⟨o,ho,hs⟩ hap
            obtain ⟨j,hj⟩:=List.mem_iff_getElem?.1 ho
            rw [List.getElem?_take] at hj
            split at hj
            · rename_i hjk;exact hap j o hjk hj ((Qs _).1 hs)
            · cases hj
          · intro hn
            apply Classical.byContradiction
            intro hno
            refine hn (fun j o hj ho hs=>hno ⟨o,?_,YL hs⟩)
            exact List.mem_iff_getElem?.2 ⟨j,by rw [List.getElem?_take,if_pos hj];exact ho⟩
        constructor
        · rintro ⟨_,hap⟩;rw [if_neg (fun hh=>e.1 hh hap)]
        · intro hn;rw [if_pos (e.2 (fun hap=>hn ⟨hA,hap⟩))]
      · rw [if_neg (by rw [Yk hA];simp)]
        exact ⟨fun hh=>absurd hh.1 hA,fun _=>rfl⟩)
    (fun _=>by
      simp only [QE,Int.lt_irrefl,if_false]
      congr 2
      rw [decide_eq_decide];omega)]
  congr 1
  refine Zeq ?_
  rw [Qs]
  by_cases hA:Zgw (Zi.ZaZ c) (fun k a=>Zvo c a∧Apart (Zi.ZaZ c) k a)
  · rw [Vq hA,decide_eq_true_eq];exact ⟨fun h=>⟨h,hA⟩,fun h=>h.1⟩
  · rw [Qq hA];exact ⟨fun h=>(by cases h),fun h=>absurd h.2 hA⟩
def Zqq (c:Zi) (k:Int):Prop:=∃ a∈Zi.ZaZ c,ZJ.Kind a=k
theorem ZeE (c:Zi) (k:Int) (h:Zpa c):QG c k=some (tr (Zqq c k)):=by
  unfold QG
  rw [QY (XK h.arcs) (fun a=>decide (ZJ.Kind a=k)) (fun a _=>rfl),Option.bind_some]
  refine ZcR ?_
  rw [List.any_eq_true]
  simp only [decide_eq_true_eq,Zqq]
def Zgj (c:Zi):Prop :=
  (Zi.Kind c=1∧Zl6 (Zi.Yx c)=0∧(Zi.Truth c).length=2 ^ ((Zi.Yx c).length-1)∧ZiB (Zi.Truth c) 0 1)∨
  (Zi.Kind c=2∧Zl6 (Zi.Yx c)=1∧(Zi.Truth c).length=0∧¬Zqq c 1∧(Zqq c 2↔¬Zqq c 3))∨
  (Zi.Kind c=3∧Zl6 (Zi.Yx c)=1∧(Zi.Truth c).length=0∧Zqq c 1∧Zqq c 2∧¬Zqq c 3)
theorem Zt4 {n:Nat} (h:n≤4):(2:Nat) ^ n≤16:=by
  calc (2:Nat) ^ n≤2 ^ 4:=Nat.pow_le_pow_right (by omega) h
    _=16:=rfl
theorem ZyF {m:Nat} (h:m≤4):IntKind.i64.wrap ((1:Int)*(2:Int) ^ min m (IntKind.bits IntKind.i64))=((2 ^ m:Nat):Int):=by
  have hb:min m (IntKind.bits IntKind.i64)=m:=Nat.min_eq_left (by show m≤64;omega)
  have e:(1:Int)*(2:Int) ^ m=((2 ^ m:Nat):Int):=by simp
  rw [hb,e]
  have h16:=Zt4 h
  clear hb e
  generalize 2 ^ m=g at h16 ⊢
  rw [V7 (by omega) (by omega)]
theorem Zmi (c:Zi) (h:Zpa c) (hp:Zi5 (Zi.Yx c)):VE c=some (tr (Zgj c)):=by
  unfold VE
  have h2:=hp.1
  have h5:=hp.2.1
  refine (show Zt (fun v=>Y0 c v.1 v.2.1) ((0:Int),(0:Int),())=_ from YF (l:=Zi.Yx c) (ρ:=Bool) (fun k=>((((Zi.Yx c).take k).countP (fun p=>Yz.Clock p):Int),(k:Int),())) (step:=fun v=>Y0 c v.1 v.2.1)
    (fun k p hx hk=>by
      have hcnt:((Zi.Yx c).take k).countP (fun p=>Yz.Clock p)≤5:=by
        have h1:=List.countP_le_length (p:=fun p=>Yz.Clock p) (l:=(Zi.Yx c).take k)
        rw [List.length_take] at h1;omega
      have hnext:((Zi.Yx c).take (k+1)).countP (fun p=>Yz.Clock p)=((Zi.Yx c).take k).countP (fun p=>Yz.Clock p)+if Yz.Clock p=true then 1 else 0:=by
        rw [Yt hx,List.countP_append];simp [List.countP_cons]
      simp only [Y0,show (k:Int)<((Zi.Yx c).length:Int) from by omega,if_true,Zu,hx,Option.bind_some,hnext]
      by_cases hc:Yz.Clock p=true
      · rw [if_pos hc,if_pos hc,Q5 (by omega),Q5 (by omega)]
      · rw [if_neg hc,if_neg hc,Q5 (by omega)];rfl)
    ?_)
  have hout:=Zds c h.pins
  simp only [Y0,Int.lt_irrefl,if_false,List.take_length,hout,Option.bind_some,show (((Zi.Yx c).length:Int)-1).toNat=(Zi.Yx c).length-1 from by omega,ZyF (show (Zi.Yx c).length-1≤4 by omega)]
  have e00:((Zi.Yx c).countP (fun p=>Yz.Clock p):Int)=0↔Zl6 (Zi.Yx c)=0:=by unfold Zl6;omega
  have e01:((Zi.Yx c).countP (fun p=>Yz.Clock p):Int)=1↔Zl6 (Zi.Yx c)=1:=by unfold Zl6;omega
  unfold Zgj
  by_cases k1:Zi.Kind c=1
  · simp only [k1,if_true]
    by_cases hc:Zl6 (Zi.Yx c)=0
    · rw [if_pos (e00.2 hc),Zh (by omega)]
      by_cases ht:(Zi.Truth c).length=2 ^ ((Zi.Yx c).length-1)
      · rw [if_pos (by rw [ht]),ZcL _ _ _ (XK h.truth),Option.bind_some]
        congr 2
        refine (Zqe ?_).symm
        rw [Zkw]
        exact ⟨fun hh=>.inl ⟨trivial,hc,ht,hh⟩,fun hh=>by grind⟩
      · rw [if_neg (by omega),Yk (by grind)]
    · rw [if_neg (fun hh=>hc (e00.1 hh)),Yk (by grind)]
  by_cases k2:Zi.Kind c=2
  · simp only [k2,if_true,Int.reduceEq,if_false]
    by_cases hc:Zl6 (Zi.Yx c)=1
    · rw [if_pos (e01.2 hc)]
      by_cases ht:(Zi.Truth c).length=0
      · rw [if_pos (by omega),ZeE c 1 h,Option.bind_some]
        by_cases h1:Zqq c 1
        · rw [if_pos (YL h1),Yk (by grind)]
        · rw [if_neg (by rw [Yk h1];simp),ZeE c 2 h,ZeE c 3 h]
          simp only [Option.bind_some]
          congr 2
          refine (Zqe ?_).symm
          by_cases a:Zqq c 2<;>by_cases b:Zqq c 3<;>simp only [YL,Yk,a,b,not_false_eq_true]<;>grind
      · rw [if_neg (by omega),Yk (by grind)]
    · rw [if_neg (fun hh=>hc (e01.1 hh)),Yk (by grind)]
  by_cases k3:Zi.Kind c=3
  · simp only [k3,if_true,Int.reduceEq,if_false]
    by_cases hc:Zl6 (Zi.Yx c)=1
    · rw [if_pos (e01.2 hc)]
      by_cases ht:(Zi.Truth c).length=0
      · rw [if_pos (by omega),ZeE c 1 h,Option.bind_some]
        by_cases h1:Zqq c 1
        · rw [if_pos (YL h1),ZeE c 2 h,Option.bind_some]
          by_cases h2:Zqq c 2
          · rw [if_pos (YL h2),ZeE c 3 h,Option.bind_some]
            congr 2
            refine (Zqe ?_).symm
            rw [Bool.not_eq_true',←Bool.not_eq_true,Qs]
            grind
          · rw [if_neg (by rw [Yk h2];simp),Yk (by grind)]
        · rw [if_neg (by rw [Yk h1];simp),Yk (by grind)]
      · rw [if_neg (by omega),Yk (by grind)]
    · rw [if_neg (fun hh=>hc (e01.1 hh)),Yk (by grind)]
  · simp only [k1,k2,k3,if_false]
    rw [Yk (by grind)]
def ZyC (c:Zi):Prop:=Za6 (Zi.Name c)=true∧Zi5 (Zi.Yx c)∧((Zi.ZaZ c).length≤8∧Zgw (Zi.ZaZ c) (fun k a=>Zvo c a∧Apart (Zi.ZaZ c) k a))∧(0≤Zi.Zvn c∧Zi.Zvn c≤100000)∧(0≤Zi.Zjk c∧Zi.Zjk c≤100000)∧Zgj c
def Zkt (c:Zi):Prop:=Za6 (Zi.Name c)=true∧Zi5 (Zi.Yx c)∧((Zi.ZaZ c).length≤8∧Zgw (Zi.ZaZ c) (fun k a=>Zk3 c a∧Apart (Zi.ZaZ c) k a))∧(0≤Zi.Zvn c∧Zi.Zvn c≤100000)∧(0≤Zi.Zjk c∧Zi.Zjk c≤100000)∧Zgj c
theorem Zsx {l:List Yz} {i j:Nat} {p q:Yz} (hij:i<j) (hp:l[i]?=some p) (hq:l[j]?=some q) (cp:Yz.Clock p=true) (cq:Yz.Clock q=true):2≤Zl6 l:=by
  unfold Zl6
  have e:l.countP (fun p=>Yz.Clock p)=(l.take j).countP (fun p=>Yz.Clock p)+(l.drop j).countP (fun p=>Yz.Clock p):=by rw [←List.countP_append,List.take_append_drop]
  have h1:0<(l.take j).countP (fun p=>Yz.Clock p):=List.countP_pos_iff.2 ⟨p,List.mem_iff_getElem?.2 ⟨i,by rw [List.getElem?_take,if_pos hij];exact hp⟩,cp⟩
  have h2:0<(l.drop j).countP (fun p=>Yz.Clock p):=List.countP_pos_iff.2 ⟨q,List.mem_iff_getElem?.2 ⟨0,by rw [List.getElem?_drop];exact hq⟩,cq⟩
  omega
theorem Zo2 {l:List Yz} (h:Zl6 l≤1) {i:Int} (h0:0≤i):Zpg l i=true↔i=Ziw l:=by
  unfold Ziw ZcQ Zpg
  constructor
  · intro hc
    split at hc
    · rename_i p hp
      split
      · rename_i j hj
        obtain ⟨hj1,hj2,hj3⟩:=List.findIdx?_eq_some_iff_getElem.1 hj
        have hjg:l[j]?=some l[j]:=List.getElem?_eq_getElem hj1
        rcases Nat.lt_trichotomy i.toNat j with hlt | heq | hlt
        · have:=Zsx hlt hp hjg hc hj2;omega
        · omega
        · have:=Zsx hlt hjg hp hj2 hc;omega
      · rename_i hn
        rw [List.findIdx?_eq_none_iff] at hn
        have:=hn p (List.mem_of_getElem? hp)
        rw [hc] at this;cases this
    · cases hc
  · intro hi
    split at hi
    · rename_i j hj
      obtain ⟨hj1,hj2,hj3⟩:=List.findIdx?_eq_some_iff_getElem.1 hj
      subst hi
      rw [Int.toNat_natCast,List.getElem?_eq_getElem hj1]
      exact hj2
    · omega
theorem Zs2 {l:List Yz} (h:Zi5 l):Zpg l ((l.length:Int)-1)=false:=by
  have h2:=h.1
  have hp:l[l.length-1]?=some l[l.length-1]:=List.getElem?_eq_getElem (by omega)
  have:=((h.2.2.2 _ _ hp).2.1 (by omega)).2.2
  unfold Zpg
  rw [show ((l.length:Int)-1).toNat=l.length-1 by omega,hp]
  exact this
theorem Zuj {c:Zi} (hp:Zi5 (Zi.Yx c)) (hk:Zl6 (Zi.Yx c)≤1) (a:ZJ):Zvo c a↔Zk3 c a:=by
  have h2:=hp.1
  have hF:0≤ZJ.From a→(Zpg (Zi.Yx c) (ZJ.From a)=true↔ZJ.From a=Ziw (Zi.Yx c)):=fun h=>Zo2 hk h
  have hT:0≤ZJ.To a→(Zpg (Zi.Yx c) (ZJ.To a)=true↔ZJ.To a=Ziw (Zi.Yx c)):=fun h=>Zo2 hk h
  have hlast:=Zs2 hp
  have hfr:∀ i,Zpg (Zi.Yx c) i=true→i<((Zi.Yx c).length:Int):=by
    intro i hi
    unfold Zpg at hi
    split at hi
    · rename_i p hp'
      have:=(List.getElem?_eq_some_iff.1 hp').1
      omega
    · cases hi
  unfold Zvo Zk3
  generalize Ziw (Zi.Yx c)=ck at *
  constructor
  · rintro (⟨k,s,sl,td,fc,f0,⟨t0,t1⟩,ne⟩ | ⟨k,td,ts,te,⟨f0,f1⟩,hh⟩)
    · have hclk:=(hF f0).2 fc
      have hnl:ZJ.From a≠((Zi.Yx c).length:Int)-1:=fun e=>by rw [e,hlast] at hclk;cases hclk
      have:=hfr _ hclk
      refine ⟨⟨f0,by omega⟩,⟨t0,by omega⟩,.inr (.inr ⟨k,hclk,by omega,?_,s,td,sl⟩)⟩
      rw [←Bool.not_eq_true]
      intro hc
      exact ne (((hT t0).1 hc).trans fc.symm)
    · refine ⟨⟨f0,f1⟩,⟨by omega,by omega⟩,?_⟩
      rcases hh with ⟨k1,c1,s1⟩ | ⟨k1,c1,s1⟩
      · exact .inl ⟨k1,c1,te,s1,td,ts⟩
      · exact .inr (.inl ⟨k1,c1,te,s1,td,ts⟩)
  · rintro ⟨⟨f0,f1⟩,⟨t0,t1⟩,(⟨k,c1,te,s,td,ts⟩ | ⟨k,c1,te,s,td,ts⟩ | ⟨k,c1,tl,c2,s,td,sl⟩)⟩
    · exact .inr ⟨by omega,td,ts,te,⟨f0,f1⟩,.inl ⟨k,c1,s⟩⟩
    · exact .inr ⟨by omega,td,ts,te,⟨f0,f1⟩,.inr ⟨k,c1,s⟩⟩
    · refine .inl ⟨k,s,sl,td,(hF f0).1 c1,f0,⟨t0,by omega⟩,fun e=>?_⟩
      rw [e,c1] at c2;cases c2
theorem Zgj.Zl6 {c:Zi} (h:Zgj c):Zl6 (Zi.Yx c)≤1:=by
  rcases h with h | h | h
  · have:=h.2.1;omega
  · have:=h.2.1;omega
  · have:=h.2.1;omega
theorem Zv9 (c:Zi):ZyC c↔Zkt c:=by
  unfold ZyC Zkt
  constructor
  · rintro ⟨a,b,⟨c1,d⟩,e,f,g⟩
    exact ⟨a,b,⟨c1,fun k x hx=>⟨(Zuj b g.Zl6 x).1 (d k x hx).1,(d k x hx).2⟩⟩,e,f,g⟩
  · rintro ⟨a,b,⟨c1,d⟩,e,f,g⟩
    exact ⟨a,b,⟨c1,fun k x hx=>⟨(Zuj b g.Zl6 x).2 (d k x hx).1,(d k x hx).2⟩⟩,e,f,g⟩
theorem Zor (c:Zi) (h:sm X3 c):ZgX c=some (tr (Zkt c)):=by
  have hc:=ZuR h
  unfold ZgX
  refine JA (YW (by rw [Zgp];exact ZcR Iff.rfl) (fun _=>YW (Znc _ hc.pins) (fun hp=>YW (Zn9 c hc) (fun _=>YW (VR _ _ _) (fun _=>YW (VR _ _ _) (fun _=>Zbj (Zmi c hc hp))))))) ?_
  exact (Zv9 c)
end Go.Proofs.YtfndhpjedmopdaaGreatDoor
/-
  Plain laws: cells by the reference; libraries.
-/
namespace Go.Proofs.YtfndhpjedmopdaaGreatDoor
set_option linter.unusedVariables false
set_option linter.unusedSimpArgs false
open Go Go.Sx
def Zfr (l:List ZJ):List Int:=(List.range 6).map (fun (j:Nat)=>((l.countP (fun a=>decide (ZJ.Kind a=(j:Int))):Nat):Int))
theorem Zdm (l:List ZJ) {j:Nat} (h:j<6):(Zfr l)[j]?=some ((l.countP (fun a=>decide (ZJ.Kind a=(j:Int))):Nat):Int):=by
  simp [Zfr,List.getElem?_range h]
theorem Zmv (c:Zi) (h:Zpa c) (hk:∀ a∈Zi.ZaZ c,1≤ZJ.Kind a∧ZJ.Kind a≤5):Zcx c=some (Zfr (Zi.ZaZ c)):=by
  unfold Zcx
  have hs:=Zm h.arcs
  have h0:List.replicate (Int.toNat (6:Int)) (0:Int)=Zfr ((Zi.ZaZ c).take 0):=by simp [Zfr];decide
  rw [h0]
  refine YF (l:=Zi.ZaZ c) (ρ:=List Int) (fun k=>((k:Int),Zfr ((Zi.ZaZ c).take k),())) (step:=fun v=>Vf c v.1 v.2.1)
    (fun k a hx hlt=>?_) (by simp only [Vf,Int.lt_irrefl,if_false,List.take_length])
  obtain ⟨k1,k5⟩:=hk a (List.mem_of_getElem? hx)
  have hkn:ZJ.Kind a=(((ZJ.Kind a).toNat:Nat):Int):=by omega
  have hcnt:∀ j:Nat,((Zi.ZaZ c).take k).countP (fun a=>decide (ZJ.Kind a=(j:Int)))≤1048576:=by
    intro j
    have h1:=List.countP_le_length (p:=fun a=>decide (ZJ.Kind a=(j:Int))) (l:=(Zi.ZaZ c).take k)
    rw [List.length_take] at h1;omega
  simp only [Vf,show (k:Int)<((Zi.ZaZ c).length:Int) from by omega,if_true,Zu,hx,Option.bind_some]
  rw [Qu (by omega) (Zdm _ (show (ZJ.Kind a).toNat<6 by omega)),Option.bind_some,Q5 (hcnt _),Q5 (by omega)]
  congr 3
  rw [Prod.mk.injEq]
  refine ⟨?_,rfl⟩
  apply List.ext_getElem?
  intro j
  by_cases hj:(ZJ.Kind a).toNat=j
  · subst hj
    rw [List.getElem?_set_self (by simp [Zfr];omega),Zdm _ (by omega),Yt hx,List.countP_append]
    congr 2
    rw [List.countP_cons,List.countP_nil]
    simp [←hkn]
  · rw [List.getElem?_set_ne hj]
    by_cases h6:j<6
    · rw [Zdm _ h6,Zdm _ h6,Yt hx,List.countP_append]
      congr 2
      rw [List.countP_cons,List.countP_nil]
      have:¬ZJ.Kind a=(j:Int):=by omega
      simp [this]
    · rw [List.getElem?_eq_none (by simp [Zfr];omega),List.getElem?_eq_none (by simp [Zfr];omega)]
theorem Zns (c:Zi) (j:Nat):0<(Zi.ZaZ c).countP (fun a=>decide (ZJ.Kind a=(j:Int)))↔Zqq c j:=by
  rw [List.countP_pos_iff]
  simp only [decide_eq_true_eq,Zqq]
theorem Zk6 (c:Zi) (h:Zpa c) (hp:Zi5 (Zi.Yx c)) (hk1:Zi.Kind c=1) :
    Zt (fun v=>Jo c ((Zl6 (Zi.Yx c):Int),true) v.1) ((0:Int),())=some (.inr (tr (Zgj c))):=by
  have h2:=hp.1
  have h5:=hp.2.1
  have hs:=Zm h.truth
  have e1:IntKind.i64.wrap (((Zi.Yx c).length:Int)-1)=((Zi.Yx c).length:Int)-1:=V7 (by omega) (by omega)
  have e2:IntKind.u64.wrap (((Zi.Yx c).length:Int)-1)=((Zi.Yx c).length:Int)-1:=IntWalk.u64_in _ (by omega)
  rw [J4 (XK h.truth) (fun k x=>0≤x∧x≤1) (bad:=.inr false) (good:=.inr (tr (Zl6 (Zi.Yx c)=0∧(Zi.Truth c).length=2 ^ ((Zi.Yx c).length-1))))
    (fun k x hx hk _=>by
      simp only [Jo,show (k:Int)<((Zi.Truth c).length:Int) from by omega,if_true,Zu,hx,Option.bind_some,ZdS,within_iff]
      exact ⟨fun hh=>by rw [if_pos hh],fun hh=>by rw [if_neg hh]⟩)
    (fun _=>by
      simp only [Jo,Int.lt_irrefl,if_false,e1,e2]
      by_cases hc:Zl6 (Zi.Yx c)=0
      · rw [if_pos (by omega),Zh (by omega),show (((Zi.Yx c).length:Int)-1).toNat=(Zi.Yx c).length-1 by omega,ZyF (by omega)]
        congr 2
        congr 1
        refine (Zqe ?_).symm
        rw [decide_eq_true_eq]
        constructor
        · intro hh;exact ⟨hc,by omega⟩
        · intro hh;rw [hh.2]
      · rw [if_neg (by omega),Yk (fun hh=>hc hh.1)])]
  congr 1
  by_cases hA:Zgw (Zi.Truth c) (fun k x=>0≤x∧x≤1)
  · rw [Vq hA]
    congr 1
    refine V9 ?_
    have hAll:ZiB (Zi.Truth c) 0 1:=fun x hx=>by
      obtain ⟨k,hk⟩:=List.mem_iff_getElem?.1 hx
      exact hA k x hk
    unfold Zgj
    grind
  · rw [Qq hA,Yk]
    intro hh
    rcases hh with hh | hh | hh
    · exact hA (fun k x hk=>hh.2.2.2 x (List.mem_of_getElem? hk))
    · have:=hh.1;omega
    · have:=hh.1;omega
theorem Zoe (c:Zi) (hsm:sm X3 c):Zes c=some (tr (Zkt c)):=by
  have h:=ZuR hsm
  have hs:=Zm h.arcs
  unfold Zes
  rw [Zm8 c h.pins,Option.bind_some]
  by_cases hp':¬Zi5 (Zi.Yx c)
  · rw [Qq hp',Yk (fun hh=>hp' hh.2.1)];rfl
  have hp:=Classical.not_not.1 hp'
  rw [Vq hp]
  simp only [if_true]
  refine JA (YW (P:=Za6 (Zi.Name c)=true) (by rw [Zek _ h.name];exact ZcR Iff.rfl) (fun hn=>Zhe (fun h8=>YW (Zaz _ _ _) (fun hl=>YW (Zaz _ _ _) (fun he=>?_))))) (P:=Za6 (Zi.Name c)=true∧¬((8:Int)<((Zi.ZaZ c).length:Int))∧(0≤Zi.Zvn c∧Zi.Zvn c≤100000)∧(0≤Zi.Zjk c∧Zi.Zjk c≤100000)∧(Zgw (Zi.ZaZ c) (fun k a=>Zk3 c a∧Apart (Zi.ZaZ c) k a)∧Zgj c)) ?_
  · rw [J4 (XK h.arcs) (fun k a=>Zk3 c a∧Apart (Zi.ZaZ c) k a) (bad:=false) (good:=tr (Zgj c))
      (fun k a hx hk _=>by
        obtain ⟨h1,h2⟩:=ZwP (ZaM h.arcs hx)
        simp only [ZaU,show (k:Int)<((Zi.ZaZ c).length:Int) from by omega,if_true,Zu,hx,Option.bind_some,ZoA c a h.pins h1 h2 hp.1]
        have inner:Zt (fun v=>Jk c (k:Int) a v.1) ((0:Int),())=some (sel (∀ j,j<k→∀ o,(Zi.ZaZ c)[j]?=some o→¬ZfG o a) (.inl (IntKind.i64.wrap ((k:Int)+1),())) (.inr false)):=by
          refine ZnL k (by omega) (fun j=>∀ o,(Zi.ZaZ c)[j]?=some o→¬ZfG o a) (fun j hj=>?_) (fun _=>by simp only [Jk,Int.lt_irrefl,if_false])
          obtain ⟨o,ho⟩:∃ o,(Zi.ZaZ c)[j]?=some o:=⟨_,List.getElem?_eq_getElem (by omega)⟩
          simp only [Jk,show (j:Int)<(k:Int) from by omega,if_true,Zu,ho,Option.bind_some]
          have e:(∀ o',some o=some o'→¬ZfG o' a)↔¬ZfG o a:=⟨fun hh=>hh o rfl,fun hh o' ho'=>by injection ho' with ho';subst ho';exact hh⟩
          rw [e]
          unfold ZfG
          constructor
          · intro hh
            split
            · split
              · split
                · exact absurd ⟨‹_›,‹_›,‹_›⟩ hh
                · rfl
              · rfl
            · rfl
          · intro hh
            have hh:=Classical.not_not.1 hh
            rw [if_pos hh.1,if_pos hh.2.1,if_pos hh.2.2]
        have eap:Apart (Zi.ZaZ c) k a↔(∀ j,j<k→∀ o,(Zi.ZaZ c)[j]?=some o→¬ZfG o a):=⟨fun hh j hj o ho=>hh j o hj ho,fun hh j o hj ho=>hh j hj o ho⟩
        by_cases hA:Zk3 c a
        · rw [if_pos (YL hA),inner]
          constructor
          · intro hh;rw [Vq (eap.1 hh.2)]
          · intro hh;rw [Qq (fun h'=>hh ⟨hA,eap.2 h'⟩)]
        · rw [if_neg (by rw [Yk hA];simp)]
          exact ⟨fun hh=>absurd hh.1 hA,fun _=>rfl⟩)
      (fun hA=>by
        have hkinds:=Zmv c h (fun a ha=>by
          obtain ⟨k,hk⟩:=List.mem_iff_getElem?.1 ha
          exact (hA k a hk).1.kind)
        have g1:atI (Zfr (Zi.ZaZ c)) (1:Int)=some (((Zi.ZaZ c).countP (fun a=>decide (ZJ.Kind a=((1:Nat):Int))):Nat):Int):=Qu (by omega) (Zdm _ (by omega))
        have g2:atI (Zfr (Zi.ZaZ c)) (2:Int)=some (((Zi.ZaZ c).countP (fun a=>decide (ZJ.Kind a=((2:Nat):Int))):Nat):Int):=Qu (by omega) (Zdm _ (by omega))
        have g3:atI (Zfr (Zi.ZaZ c)) (3:Int)=some (((Zi.ZaZ c).countP (fun a=>decide (ZJ.Kind a=((3:Nat):Int))):Nat):Int):=Qu (by omega) (Zdm _ (by omega))
        have c1:=Zns c 1
        have c2:=Zns c 2
        have c3:=Zns c 3
        simp only [ZaU,Int.lt_irrefl,if_false,hkinds,Option.bind_some,g1,g2,g3]
        generalize (Zi.ZaZ c).countP (fun a=>decide (ZJ.Kind a=((1:Nat):Int)))=n1 at c1 ⊢
        generalize (Zi.ZaZ c).countP (fun a=>decide (ZJ.Kind a=((2:Nat):Int)))=n2 at c2 ⊢
        generalize (Zi.ZaZ c).countP (fun a=>decide (ZJ.Kind a=((3:Nat):Int)))=n3 at c3 ⊢
        by_cases k1:Zi.Kind c=1
        · rw [if_pos k1]
          exact Zk6 c h hp k1
        rw [if_neg k1]
        have hgoal:∀ (b:Bool),(b=true↔Zgj c)→(some (.inr b):Option ((Int×Unit) ⊕ Bool))=some (.inr (tr (Zgj c))):=fun b hb=>by rw [Zqe hb]
        have c1':Zqq c 1↔0<n1:=c1.symm
        have c2':Zqq c 2↔0<n2:=c2.symm
        have c3':Zqq c 3↔0<n3:=c3.symm
        have hKO:Zgj c↔(Zi.Kind c=2∧Zl6 (Zi.Yx c)=1∧(Zi.Truth c).length=0∧¬0<n1∧(0<n2↔¬0<n3))∨(Zi.Kind c=3∧Zl6 (Zi.Yx c)=1∧(Zi.Truth c).length=0∧0<n1∧0<n2∧¬0<n3):=by
          unfold Zgj
          rw [c1',c2',c3']
          constructor
          · rintro (hh | hh | hh)
            · exact absurd hh.1 k1
            · exact .inl hh
            · exact .inr hh
          · rintro (hh | hh)
            · exact .inr (.inl hh)
            · exact .inr (.inr hh)
        by_cases k2:Zi.Kind c=2
        · rw [if_pos k2]
          split
          · split
            · split
              · rename_i a b d
                refine hgoal _ ?_
                rw [hKO]
                simp only [beq_iff_eq,decide_eq_decide] at d
                constructor
                · intro hh;cases hh
                · intro hh;omega
              · rename_i a b d
                refine hgoal _ ?_
                rw [hKO,decide_eq_true_eq]
                simp only [beq_iff_eq,decide_eq_decide] at d
                omega
            · refine hgoal _ ?_
              rw [hKO]
              constructor
              · intro hh;cases hh
              · intro hh;omega
          · refine hgoal _ ?_
            rw [hKO]
            constructor
            · intro hh;cases hh
            · intro hh;omega
        rw [if_neg k2]
        repeat' split
        all_goals
          refine hgoal _ ?_
          rw [hKO]
          first
            | (rw [decide_eq_true_eq];omega)
            | (constructor
               · intro hh;cases hh
               · intro hh;omega))]
    congr 1
    by_cases hA:Zgw (Zi.ZaZ c) (fun k a=>Zk3 c a∧Apart (Zi.ZaZ c) k a)
    · rw [Vq hA];exact V9 ⟨fun x=>⟨hA,x⟩,fun x=>x.2⟩
    · rw [Qq hA,Yk (fun x=>hA x.1)]
  · unfold Zkt
    constructor
    · rintro ⟨a,b,c1,d,e,f⟩
      exact ⟨a,hp,⟨by omega,e⟩,c1,d,f⟩
    · rintro ⟨a,b,⟨c1,d⟩,e,f,g⟩
      exact ⟨a,by omega,e,f,d,g⟩
end Go.Proofs.YtfndhpjedmopdaaGreatDoor
/-
  Plain laws: libraries; names of a design.
-/
namespace Go.Proofs.YtfndhpjedmopdaaGreatDoor
set_option linter.unusedVariables false
set_option linter.unusedSimpArgs false
open Go Go.Sx
theorem Zsn {α:Type} {l:List α} {k:Nat} {s:α}:s ∉ l.take k↔∀ (j:Nat) (q:α),j<k→l[j]?=some q→q≠s:=by
  constructor
  · intro h j q hj hq e
    refine h (List.mem_iff_getElem?.2 ⟨j,?_⟩)
    rw [List.getElem?_take,if_pos hj,hq,e]
  · intro h hm
    obtain ⟨j,hj⟩:=List.mem_iff_getElem?.1 hm
    rw [List.getElem?_take] at hj
    split at hj
    · rename_i hjk;exact h j s hjk hj rfl
    · cases hj
theorem ZqF {α:Type} (f:α→List UInt8) (l:List α):VK (l.map f) l.length↔Zgw l (fun k x=>Za6 (f x)=true∧∀ (j:Nat) (q:α),j<k→l[j]?=some q→f q≠f x):=by
  constructor
  · intro h k x hx
    have hk:=(List.getElem?_eq_some_iff.1 hx).1
    obtain ⟨h1,h2⟩:=h k (f x) hk (by simp [hx])
    refine ⟨h1,fun j q hj hq=>Zsn.1 h2 j (f q) hj (by simp [hq])⟩
  · intro h j s hj hs
    simp only [List.getElem?_map,Option.map_eq_some_iff] at hs
    obtain ⟨x,hx,rfl⟩:=hs
    obtain ⟨h1,h2⟩:=h j x hx
    refine ⟨h1,Zsn.2 (fun i q hi hq=>?_)⟩
    simp only [List.getElem?_map,Option.map_eq_some_iff] at hq
    obtain ⟨y,hy,rfl⟩:=hq
    exact h2 i y hi hy
def Zgy (l:List Zi):List (List UInt8):=l.map Zi.Name
def Zr8 (a:Zk):Prop:=(Zk.Cells a).length≤8∧(∀ c∈Zk.Cells a,Zkt c)∧VK (Zgy (Zk.Cells a)) (Zk.Cells a).length
theorem ZoJ {a:Zk} (h:sm YH a):sm (.sl X3) (Zk.Cells a):=h.1
theorem Ze2 {α:Type} {l:List α} {P:α→Prop}:Zgw l (fun _ x=>P x)↔∀ x∈l,P x:=by
  constructor
  · intro h x hx
    obtain ⟨k,hk⟩:=List.mem_iff_getElem?.1 hx
    exact h k x hk
  · intro h k x hk
    exact h x (List.mem_of_getElem? hk)
theorem Zkl {P Q:Prop}:sel P (tr Q) false=tr (P∧Q):=by
  by_cases h:P
  · rw [Vq h];exact V9 ⟨fun q=>⟨h,q⟩,fun q=>q.2⟩
  · rw [Qq h,Yk (fun q=>h q.1)]
theorem ZkU (a:Zk) (h:sm YH a):ZeZ a=some (tr (Zr8 a)):=by
  have hc:=ZoJ h
  have hs:=Zm hc
  unfold ZeZ
  have:=ZiP (l:=Zk.Cells a) (ρ:=Bool) (fun k=>((Zgy (Zk.Cells a)).take k,(k:Int),())) (fun _ c=>Zkt c) (step:=fun v=>VY a v.1 v.2.1) (bad:=false) (good:=tr ((Zk.Cells a).length≤8∧VK (Zgy (Zk.Cells a)) (Zk.Cells a).length))
    (fun k c hx hk _=>by
      have hn:(Zgy (Zk.Cells a))[k]?=some (Zi.Name c):=by simp [Zgy,hx]
      simp only [VY,show (k:Int)<((Zk.Cells a).length:Int) from by omega,if_true,Zu,hx,Option.bind_some,Zor c (ZaM hc hx)]
      rw [Zh (by simp only [List.length_take,List.length_singleton,Zgy,List.length_map];omega),Yt hn,Q5 (by omega)]
      constructor
      · intro hh;rw [if_pos (YL hh)]
      · intro hh;rw [if_neg (by rw [Yk hh];simp)])
    (fun hA=>by
      have e0:(Zgy (Zk.Cells a)).take (Zk.Cells a).length=Zgy (Zk.Cells a):=by rw [show (Zk.Cells a).length=(Zgy (Zk.Cells a)).length by simp [Zgy],List.take_length]
      have hlen:(Zgy (Zk.Cells a)).length=(Zk.Cells a).length:=by simp [Zgy]
      simp only [VY,Int.lt_irrefl,if_false,e0]
      by_cases h8:(Zk.Cells a).length≤8
      · rw [if_pos (by omega),Zbr _ (by rw [hlen];omega),Option.bind_some,hlen]
        congr 2
        exact V9 ⟨fun q=>⟨h8,q⟩,fun q=>q.2⟩
      · rw [if_neg (by omega),Yk (fun q=>h8 q.1)])
  refine (show Zt (fun v=>VY a v.1 v.2.1) (([]:List (List UInt8)),(0:Int),())=_ from this).trans ?_
  rw [Zkl]
  congr 1
  refine V9 ?_
  rw [Ze2]
  exact ⟨fun q=>⟨q.2.1,q.1,q.2.2⟩,fun q=>⟨q.2.1,q.1,q.2.2⟩⟩
theorem ZnS {α ρ:Type} {f:α→List UInt8} {l:List α} {x:α} {k:Nat} (hk:k≤1048576) (hkl:k≤l.length) {step:Int×Unit→Option ((Int×Unit) ⊕ ρ)} {bad good:ρ}
    (hs:∀ (j:Nat) (y:α),j<k→l[j]?=some y→step ((j:Int),())=some (if f y=f x then .inr bad else .inl (IntKind.i64.wrap ((j:Int)+1),())))
    (hx:step ((k:Int),())=some (.inr good)):Zt step ((0:Int),())=some (sel (∀ (j:Nat) (q:α),j<k→l[j]?=some q→f q≠f x) good bad):=by
  rw [ZnL k (by omega) (fun j=>∀ q,l[j]?=some q→f q≠f x) (bad:=bad) (good:=good) (fun j hj=>by
    have hjl:l[j]?=some l[j]:=List.getElem?_eq_getElem (by omega)
    rw [hs j _ hj hjl]
    constructor
    · intro hh;rw [if_neg (hh _ hjl)]
    · intro hh
      rw [if_pos]
      apply Classical.byContradiction
      intro hne
      refine hh (fun q hq=>?_)
      rw [hjl] at hq;injection hq with hq;subst hq;exact hne) (fun _=>hx)]
  congr 1
  have e:(∀ j,j<k→∀ q,l[j]?=some q→f q≠f x)↔(∀ (j:Nat) (q:α),j<k→l[j]?=some q→f q≠f x):=⟨fun h j q hj hq=>h j hj q hq,fun h j hj q hq=>h j q hj hq⟩
  rw [propext e]
theorem ZlD (a:Zk) (h:sm YH a):ZeW a=some (tr (Zr8 a)):=by
  have hc:=ZoJ h
  have hs:=Zm hc
  unfold ZeW
  rw [J4 (XK hc) (fun k c=>Zkt c∧∀ (j:Nat) (q:Zi),j<k→(Zk.Cells a)[j]?=some q→Zi.Name q≠Zi.Name c) (bad:=false) (good:=tr ((Zk.Cells a).length≤8))
    (fun k c hx hk _=>by
      simp only [ZcT,show (k:Int)<((Zk.Cells a).length:Int) from by omega,if_true,Zu,hx,Option.bind_some,Zoe c (ZaM hc hx)]
      by_cases hC:Zkt c
      · rw [if_pos (YL hC),ZnS (f:=Zi.Name) (l:=Zk.Cells a) (x:=c) (k:=k) (by omega) (by omega) (bad:=.inr false) (good:=.inl (IntKind.i64.wrap ((k:Int)+1),()))
          (fun j y hj hy=>by
            simp only [ZcW,show (j:Int)<(k:Int) from by omega,if_true,Zu,hy,Option.bind_some]
            split<;>rfl)
          (by simp only [ZcW,Int.lt_irrefl,if_false])]
        constructor
        · intro hh;rw [Vq hh.2]
        · intro hh;rw [Qq (fun q=>hh ⟨hC,q⟩)]
      · rw [if_neg (by rw [Yk hC];simp)]
        exact ⟨fun hh=>absurd hh.1 hC,fun _=>rfl⟩)
    (fun _=>by
      simp only [ZcT,Int.lt_irrefl,if_false]
      congr 2
      exact (Zqe (by rw [decide_eq_true_eq];omega)).symm)]
  rw [Zkl]
  congr 1
  refine V9 ?_
  unfold Zr8
  rw [Zgy,ZqF,←Ze2]
  constructor
  · rintro ⟨q,q8⟩
    exact ⟨q8,fun k x hx=>(q k x hx).1,fun k x hx=>⟨(q k x hx).1.1,(q k x hx).2⟩⟩
  · rintro ⟨q8,q1,q2⟩
    exact ⟨fun k x hx=>⟨q1 k x hx,(q2 k x hx).2⟩,q8⟩
theorem Zfm (l:List (List UInt8)) (hl:l.length≤1048576) (hsm:∀ s∈l,s.length≤4611686018427387904):ZaB l=some (tr (VK l l.length)):=by
  unfold ZaB
  rw [J4 (show Len l by show l.length≤4611686018427387904;omega) (fun k s=>Za6 s=true∧∀ (j:Nat) (q:List UInt8),j<k→l[j]?=some q→id q≠id s) (bad:=false) (good:=true)
    (fun k s hx hk _=>by
      simp only [Jr,show (k:Int)<(l.length:Int) from by omega,if_true,Zu,hx,Option.bind_some,Zek s (hsm s (List.mem_of_getElem? hx))]
      by_cases hC:Za6 s=true
      · rw [if_pos hC,ZnS (f:=id) (l:=l) (x:=s) (k:=k) (by omega) (by omega) (bad:=.inr false) (good:=.inl (IntKind.i64.wrap ((k:Int)+1),()))
          (fun j y hj hy=>by
            simp only [Jw,show (j:Int)<(k:Int) from by omega,if_true,Zu,hy,Option.bind_some,id]
            split<;>rfl)
          (by simp only [Jw,Int.lt_irrefl,if_false])]
        constructor
        · intro hh;rw [Vq hh.2]
        · intro hh;rw [Qq (fun q=>hh ⟨hC,q⟩)]
      · rw [if_neg hC]
        exact ⟨fun hh=>absurd hh.1 hC,fun _=>rfl⟩)
    (fun _=>by simp only [Jr,Int.lt_irrefl,if_false]),Zkv]
  congr 1
  refine V9 ?_
  have:=ZqF id l
  rw [List.map_id] at this
  exact this.symm
def Za7 (d:Zb):List (List UInt8):=(Zb.Instances d).map Zd.Name
def ZcV (d:Zb):List (List UInt8):=(Zb.ZQ d).map ZV.Name
def Zj7 (d:Zb):Prop:=(Zb.Instances d).length≤14∧(Zb.ZM d).length≤30∧(Zb.ZQ d).length≤8∧VK (Za7 d) (Za7 d).length∧VK (Zb.ZM d) (Zb.ZM d).length∧VK (ZcV d) (ZcV d).length
structure Zzz (d:Zb):Prop where
  insts:sm (.sl Z0) (Zb.Instances d)
  ports:sm (.sl J5) (Zb.ZQ d)
  nets:sm (.sl .str) (Zb.ZM d)
theorem gather {α ρ:Type} {l:List α} (hl:l.length≤1048576) (f:α→List UInt8) {step:List (List UInt8)×Int×Unit→Option ((List (List UInt8)×Int×Unit) ⊕ ρ)} {good:ρ}
    (hs:∀ (k:Nat) (x:α) (o:List (List UInt8)),l[k]?=some x→(k:Int)<(l.length:Int)→o.length=k→step (o,(k:Int),())=Zp ((o.length+[f x].length)*16≤140737488355328) (some (.inl (o++[f x],IntKind.i64.wrap ((k:Int)+1),()))))
    (hx:step (l.map f,(l.length:Int),())=some (.inr good)):Zt step (([]:List (List UInt8)),(0:Int),())=some good:=by
  refine (show Zt step (([]:List (List UInt8)),(0:Int),())=some good from YF (l:=l) (fun k=>((l.map f).take k,(k:Int),())) (fun k x hx hk=>?_) ?_)
  · have hn:(l.map f)[k]?=some (f x):=by simp [hx]
    have hlen:((l.map f).take k).length=k:=by rw [List.length_take,List.length_map];omega
    rw [hs k x _ hx (by omega) hlen,Zh (by rw [hlen];simp;omega),Yt hn,Q5 (by omega)]
  · have e0:(l.map f).take l.length=l.map f:=by rw [show l.length=(l.map f).length by simp,List.take_length]
    simp only [e0]
    exact hx
end Go.Proofs.YtfndhpjedmopdaaGreatDoor
