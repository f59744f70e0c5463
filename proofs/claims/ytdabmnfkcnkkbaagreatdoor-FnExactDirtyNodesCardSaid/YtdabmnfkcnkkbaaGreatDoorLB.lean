/-
  Plain laws: lists of numbers, tables.
-/
import Derived.Test.YtdabmnfkcnkkbaaGreatDoorLA
namespace Go.Proofs.YtdabmnfkcnkkbaaGreatDoor
set_option linter.unusedVariables false
set_option linter.unusedSimpArgs false
open Go Go.Sx
theorem ZcM {a b:Bool} (h:a=true↔b=true):a=b:=by cases a<;>cases b<;>simp_all
theorem Vd {P Q:Prop} (h:P↔Q):tr P=tr Q:=by rw [propext h]
def Inc (l:List Int):Prop:=∀ (k:Nat) (x y:Int),l[k]?=some x→l[k+1]?=some y→x<y
def Zgl (l:List Int) (lo hi:Int):Prop:=∀ x∈l,lo≤x∧x≤hi
theorem Zih (l:List Int) (lo hi:Int):allIn l lo hi=true↔Zgl l lo hi:=by
  unfold allIn Zgl
  rw [List.all_eq_true]
  simp only [within_iff]
theorem V9 (l:List Int):Xm l=some (l.length:Int):=rfl
theorem Zhd (l:List Int) (hl:Len l):ZaW l=some (tr (Inc l)):=by
  unfold ZaW
  have h4:l.length≤4611686018427387904:=hl
  by_cases h0:l.length=0
  · have:l=[]:=List.eq_nil_of_length_eq_zero h0
    subst this
    rw [Zg5 (r:=true) (by rfl)]
    have h0:Inc []:=fun k x y h=>by simp at h
    rw [Xh h0]
  have:=ZpD (ρ:=Bool) 1 l.length (by omega) h4 (fun k=>∀ x y,l[k-1]?=some x→l[k]?=some y→x<y) (step:=fun v=>Qh l v.1) (bad:=false) (good:=true)
    (fun k h1 h2 _=>by
      obtain ⟨x,hx⟩:∃ x,l[k-1]?=some x:=⟨_,List.getElem?_eq_getElem (by omega)⟩
      obtain ⟨y,hy⟩:∃ y,l[k]?=some y:=⟨_,List.getElem?_eq_getElem h2⟩
      have e1:IntKind.i64.wrap ((k:Int)-1)=((k-1:Nat):Int):=by rw [V4 (by omega) (by omega)];omega
      simp only [Qh,show (k:Int)<(l.length:Int) from by omega,if_true,e1,Yd,hx,hy,Option.bind_some]
      refine ⟨fun h=>?_,fun h=>?_⟩
      · have:=h x y rfl rfl
        rw [if_neg (by omega)]
      · rw [if_pos]
        rcases Int.lt_or_le x y with h' | h'
        · exact absurd (fun a b ha hb=>by injection ha with ha;injection hb with hb;subst ha;subst hb;exact h') h
        · exact h')
    (fun _=>by simp only [Qh,Int.lt_irrefl,if_false])
  refine (show Yc (fun v=>Qh l v.1) ((1:Int),())=_ from this).trans ?_
  rw [ZlP]
  congr 1
  refine Vd ⟨fun h k x y hx hy=>?_,fun h j h1 h2 x y hx hy=>?_⟩
  · exact h (k+1) (by omega) (List.getElem?_eq_some_iff.1 hy).1 x y (by simpa using hx) hy
  · exact h (j-1) x y hx (by rw [show j-1+1=j by omega];exact hy)
def Zed (l:List Int):Prop:=1≤l.length∧l.length≤4∧Zgl l 0 100000∧Inc l
theorem Zhv (l:List Int) (hl:Len l):Zen l=some (tr (Zed l)):=by
  unfold Zen
  rw [V9,Option.bind_some,J7,Option.bind_some,ZaV l _ _ hl,Option.bind_some,Zhd l hl,Option.bind_some]
  have e:tr (Zed l)=(within (l.length:Int) 1 4&&allIn l 0 100000&&tr (Inc l)):=by
    refine ZnC ?_
    simp only [Bool.and_eq_true,within_iff,Zih,QA,Zed]
    exact ⟨fun ⟨⟨⟨a,b⟩,c⟩,d⟩=>⟨by omega,by omega,c,d⟩,fun ⟨a,b,c,d⟩=>⟨⟨⟨by omega,by omega⟩,c⟩,d⟩⟩
  rw [e]
  cases within (l.length:Int) 1 4<;>cases allIn l 0 100000<;>cases tr (Inc l)<;>rfl
theorem ZgM (l:List Int) (hl:Len l):Zdy l=some (tr (Zed l)):=by
  unfold Zdy
  have h4:l.length≤4611686018427387904:=hl
  rw [Jk hl (fun k x=>(0≤x∧x≤100000)∧(0<k→∀ y,l[k-1]?=some y→y<x)) (bad:=false) (good:=decide (1≤l.length∧l.length≤4))
    (fun k x hx hk _=>by
      simp only [ZcB,show (k:Int)<(l.length:Int) from by omega,if_true,Yd,hx,Option.bind_some,ZcA]
      by_cases hw:within x 0 100000=true
      · rw [if_pos hw]
        by_cases h0:0<k
        · obtain ⟨y,hy⟩:∃ y,l[k-1]?=some y:=⟨_,List.getElem?_eq_getElem (by omega)⟩
          have e1:IntKind.i64.wrap ((k:Int)-1)=((k-1:Nat):Int):=by rw [V4 (by omega) (by omega)];omega
          rw [if_pos (by omega),e1,Yd,hy,Option.bind_some]
          refine ⟨fun h=>?_,fun h=>?_⟩
          · rw [if_neg (by have:=h.2 h0 y rfl;omega)]
          · rw [if_pos]
            rcases Int.lt_or_le y x with h' | h'
            · exact absurd ⟨(within_iff _ _ _).1 hw,fun _ z hz=>by injection hz with hz;subst hz;exact h'⟩ h
            · exact h'
        · rw [if_neg (by omega)]
          exact ⟨fun _=>rfl,fun h=>absurd ⟨(within_iff _ _ _).1 hw,fun h'=>absurd h' h0⟩ h⟩
      · rw [if_neg hw]
        exact ⟨fun h=>absurd ((within_iff _ _ _).2 h.1) hw,fun _=>rfl⟩)
    (fun _=>by
      simp only [ZcB,Int.lt_irrefl,if_false]
      by_cases h1:1≤l.length
      · rw [if_pos (by omega)]
        congr 2
        rw [decide_eq_decide];omega
      · rw [if_neg (by omega)]
        simp [h1])]
  congr 1
  refine ZcM ?_
  rw [QA]
  by_cases h:Zff l (fun k x=>(0≤x∧x≤100000)∧(0<k→∀ y,l[k-1]?=some y→y<x))
  · rw [QL h,decide_eq_true_eq]
    constructor
    · rintro ⟨h1,h2⟩
      refine ⟨h1,h2,fun x hx=>?_,fun k x y hx hy=>?_⟩
      · obtain ⟨k,hk⟩:=List.mem_iff_getElem?.1 hx
        exact (h k x hk).1
      · exact (h (k+1) y hy).2 (by omega) x (by simpa using hx)
    · intro hh
      exact ⟨hh.1,hh.2.1⟩
  · rw [X8 h]
    constructor
    · intro hh;cases hh
    · intro hh
      refine absurd ?_ h
      intro k x hk
      refine ⟨hh.2.2.1 x (List.mem_of_getElem? hk),fun h0 y hy=>?_⟩
      exact hh.2.2.2 (k-1) y x hy (by rw [show k-1+1=k by omega];exact hk)
def ZcL (t:Yb):Prop:=Zed (Yb.Ze5 t)∧Zed (Yb.Loads t)∧(Yb.Values t).length=(Yb.Ze5 t).length*(Yb.Loads t).length∧Zgl (Yb.Values t) (-1000000) 1000000
def Zuo (t:Yb):Prop:=Len (Yb.Ze5 t)∧Len (Yb.Loads t)∧Len (Yb.Values t)
theorem Zed.mul {a b:List Int} (ha:Zed a) (hb:Zed b):a.length*b.length≤16:=by
  have h1:=ha.2.1
  have h2:=hb.2.1
  calc a.length*b.length≤4*4:=Nat.mul_le_mul h1 h2
    _=16:=rfl
theorem ZpG {a b:List Int} (ha:Zed a) (hb:Zed b):IntKind.i64.wrap ((a.length:Int)*(b.length:Int))=((a.length*b.length:Nat):Int):=by
  have:=ha.mul hb
  have e:(a.length:Int)*(b.length:Int)=((a.length*b.length:Nat):Int):=by simp
  rw [e,V4 (by omega) (by omega)]
theorem Zk7 (t:Yb) (h:Zuo t):ZeG t=some (tr (ZcL t)):=by
  unfold ZeG
  rw [Zhv _ h.1,Option.bind_some]
  by_cases h1:Zed (Yb.Ze5 t)
  · rw [if_pos (Xh h1),Zhv _ h.2.1,Option.bind_some]
    by_cases h2:Zed (Yb.Loads t)
    · rw [if_pos (Xh h2),ZpG h1 h2]
      by_cases h3:(Yb.Values t).length=(Yb.Ze5 t).length*(Yb.Loads t).length
      · rw [if_pos (by rw [h3]),ZaV _ _ _ h.2.2,Option.bind_some]
        congr 1
        refine ZcM ?_
        rw [Zih,QA]
        exact ⟨fun h4=>⟨h1,h2,h3,h4⟩,fun h4=>h4.2.2.2⟩
      · rw [if_neg (by omega),YL (fun hh=>h3 hh.2.2.1)]
    · rw [if_neg (by rw [YL h2];simp),YL (fun hh=>h2 hh.2.1)]
  · rw [if_neg (by rw [YL h1];simp),YL (fun hh=>h1 hh.1)]
theorem ZlV (t:Yb) (h:Zuo t):Ze1 t=some (tr (ZcL t)):=by
  unfold Ze1
  rw [ZgM _ h.1,Option.bind_some]
  by_cases h1:Zed (Yb.Ze5 t)
  · rw [if_pos (Xh h1),ZgM _ h.2.1,Option.bind_some]
    by_cases h2:Zed (Yb.Loads t)
    · rw [if_pos (Xh h2),ZpG h1 h2]
      by_cases h3:(Yb.Values t).length=(Yb.Ze5 t).length*(Yb.Loads t).length
      · rw [if_pos (by rw [h3]),Jk h.2.2 (fun k x=>-1000000≤x∧x≤1000000) (bad:=false) (good:=true)
          (fun k x hx hk _=>by
            simp only [Zcz,show (k:Int)<((Yb.Values t).length:Int) from by omega,if_true,Yd,hx,Option.bind_some,ZcA,within_iff]
            exact ⟨fun hh=>by rw [if_pos hh],fun hh=>by rw [if_neg hh]⟩)
          (fun _=>by simp only [Zcz,Int.lt_irrefl,if_false]),ZlP]
        congr 1
        refine Vd ⟨fun h4=>⟨h1,h2,h3,fun x hx=>?_⟩,fun h4 k x hx=>h4.2.2.2 x (List.mem_of_getElem? hx)⟩
        obtain ⟨k,hk⟩:=List.mem_iff_getElem?.1 hx
        exact h4 k x hk
      · rw [if_neg (by omega),YL (fun hh=>h3 hh.2.2.1)]
    · rw [if_neg (by rw [YL h2];simp),YL (fun hh=>h2 hh.2.1)]
  · rw [if_neg (by rw [YL h1];simp),YL (fun hh=>h1 hh.1)]
theorem Zny (x:Int) (l:List Int) (hl:Len (x::l)):Va (x::l)=some (l.foldl min x):=by
  unfold Va
  have h4:(x::l).length≤4611686018427387904:=hl
  have e1:¬(((x::l).length:Int)<1):=by simp only [List.length_cons];omega
  have e2:atI (x::l) (0:Int)=some x:=rfl
  rw [if_neg e1,e2,Option.bind_some]
  refine Ql l.length (fun k v=>v.1=(l.take k).foldl min x∧v.2.1=(((k+1:Nat)):Int)) _ ⟨by simp,rfl⟩ ?_ ?_
  · rintro k ⟨m,i,⟨⟩⟩ hk ⟨hm,hi⟩
    simp only at hm hi
    subst hm;subst hi
    have hx:l[k]?=some l[k]:=List.getElem?_eq_getElem hk
    have hx1:(x::l)[k+1]?=some l[k]:=by simp
    simp only [QY,Yd,hx1,Option.bind_some,show ((k+1:Nat):Int)<((x::l).length:Int) from by simp;omega,if_true]
    refine .inl ⟨_,rfl,?_,?_⟩
    · rw [Y7 hx,List.foldl_append];rfl
    · simp only [List.length_cons] at h4
      show IntKind.i64.wrap (((k+1:Nat):Int)+1)=((k+1+1:Nat):Int)
      rw [V4 (by omega) (by omega)];omega
  · rintro ⟨m,i,⟨⟩⟩ ⟨hm,hi⟩
    simp only at hm hi
    subst hm;subst hi
    rw [List.take_length]
    simp only [QY,show ¬(((l.length+1:Nat):Int)<((x::l).length:Int)) from by simp,if_false]
theorem Zis (x:Int) (l:List Int):l.foldl min x<0↔x<0∨∃ y∈l,y<0:=by
  induction l generalizing x with
  | nil=>simp
  | cons y r ih =>
    simp only [List.foldl_cons,ih,List.mem_cons,exists_eq_or_imp]
    rw [show min x y<0↔x<0∨y<0 by omega,or_assoc]
def Zdp (l:List Yb) (pos:Bool):Prop:=l.length=2∧∀ t∈l,ZcL t∧(pos=true→∀ v∈Yb.Values t,0≤v)
theorem ZcL.some {t:Yb} (h:ZcL t):∃ x l,Yb.Values t=x::l:=by
  have h1:=h.1.1
  have h2:=h.2.1.1
  have h3:=h.2.2.1
  have:1*1≤(Yb.Ze5 t).length*(Yb.Loads t).length:=Nat.mul_le_mul h1 h2
  cases hv:Yb.Values t with
  | nil=>rw [hv] at h3;simp at h3;omega
  | cons x l=>exact ⟨x,l,rfl⟩
theorem Zhb (t:Yb) (pos:Bool) (h:Zuo t):Vj t pos=some (! tr (ZcL t∧(pos=true→∀ v∈Yb.Values t,0≤v))):=by
  unfold Vj
  rw [Zk7 _ h,Option.bind_some]
  by_cases h1:ZcL t
  · rw [if_pos (Xh h1)]
    cases pos
    · rw [if_neg (by simp),Xh ⟨h1,fun e=>by cases e⟩];rfl
    · obtain ⟨x,l,hv⟩:=h1.some
      have hlen:=h.2.2
      rw [if_pos rfl,hv]
      rw [hv] at hlen
      rw [Zny x l hlen,Option.bind_some]
      congr 1
      refine ZcM ?_
      rw [decide_eq_true_eq,Zis,Bool.not_eq_true',←Bool.not_eq_true,QA]
      constructor
      · rintro (hh | ⟨y,hy,hh⟩) ⟨_,hall⟩
        · have:=hall rfl x (by simp);omega
        · have:=hall rfl y (by simp [hy]);omega
      · intro hh
        apply Classical.byContradiction
        intro hn
        refine hh ⟨h1,fun _ v hvm=>?_⟩
        rcases List.mem_cons.1 hvm with rfl | hvm
        · exact Int.not_lt.1 fun hlt=>hn (.inl hlt)
        · exact Int.not_lt.1 fun hlt=>hn (.inr ⟨v,hvm,hlt⟩)
  · rw [if_neg (by rw [YL h1];simp),YL (fun hh=>h1 hh.1)];rfl
def Zti (l:List Yb):Prop:=Len l∧∀ t∈l,Zuo t
theorem ZcO (l:List Yb) (pos:Bool) (h:Zti l):J6 l pos=some (tr (Zdp l pos)):=by
  unfold J6
  by_cases h2:l.length=2
  · rw [if_pos (by omega),X7 h.1 (fun t=>! tr (ZcL t∧(pos=true→∀ v∈Yb.Values t,0≤v))) (fun t ht=>Zhb t pos (h.2 t ht)),Option.bind_some]
    congr 1
    refine ZcM ?_
    rw [Bool.not_eq_true',List.any_eq_false,QA]
    simp only [Bool.not_eq_true',Bool.not_eq_false,QA,Bool.not_eq_true]
    exact ⟨fun hh=>⟨h2,hh⟩,fun hh=>hh.2⟩
  · rw [if_neg (by omega),YL (fun hh=>h2 hh.1)]
end Go.Proofs.YtdabmnfkcnkkbaaGreatDoor
/-
  Plain laws: pins, arcs, cells.
-/
namespace Go.Proofs.YtdabmnfkcnkkbaaGreatDoor
set_option linter.unusedVariables false
set_option linter.unusedSimpArgs false
open Go Go.Sx
theorem ZgX {α τ ρ:Type} {l:List α} (pk:Nat→τ) (P:Nat→α→Prop) {step:τ→Option (τ ⊕ ρ)} {bad good:ρ}
    (hs:∀ (k:Nat) (x:α),l[k]?=some x→k<l.length→(∀ (j:Nat) (y:α),j<k→l[j]?=some y→P j y)→(P k x→step (pk k)=some (.inl (pk (k+1))))∧(¬P k x→step (pk k)=some (.inr bad)))
    (hx:Zff l P→step (pk l.length)=some (.inr good)):Yc step (pk 0)=some (sel (Zff l P) good bad):=by
  refine Ql l.length (fun k v=>v=pk k∧∀ (j:Nat) (y:α),j<k→l[j]?=some y→P j y) _ ⟨rfl,fun j y hj=>by omega⟩ ?_ ?_
  · rintro k v hk ⟨rfl,hS⟩
    have hx:l[k]?=some l[k]:=List.getElem?_eq_getElem hk
    obtain ⟨h1,h2⟩:=hs k _ hx hk hS
    by_cases hP:P k l[k]
    · refine .inl ⟨_,h1 hP,rfl,fun j y hj hy=>?_⟩
      by_cases hjk:j<k
      · exact hS j y hjk hy
      · have:j=k:=by omega
        subst this
        rw [hx] at hy;injection hy with hy;subst hy
        exact hP
    · right
      rw [h2 hP,X8 (fun h=>hP (h k _ hx))]
  · rintro v ⟨rfl,hS⟩
    have hA:Zff l P:=fun k x hk=>hS k x (List.getElem?_eq_some_iff.1 hk).1 hk
    rw [hx hA,QL hA]
theorem Y3 {α τ ρ:Type} {l:List α} (pk:Nat→τ) {step:τ→Option (τ ⊕ ρ)} {good:ρ}
    (hs:∀ (k:Nat) (x:α),l[k]?=some x→k<l.length→step (pk k)=some (.inl (pk (k+1)))) (hx:step (pk l.length)=some (.inr good)):Yc step (pk 0)=some good:=by
  have:=ZgX (l:=l) pk (fun _ _=>True) (step:=step) (bad:=good) (good:=good) (fun k x h1 h2 _=>⟨fun _=>hs k x h1 h2,fun h=>absurd trivial h⟩) (fun _=>hx)
  rw [this,QL (show Zff l (fun _ _=>True) from fun _ _ _=>trivial)]
theorem Zly {ρ:Type} (n:Nat) (hn:n≤4611686018427387904) (P:Nat→Prop) {step:Int×Unit→Option ((Int×Unit) ⊕ ρ)} {bad good:ρ}
    (hs:∀ k:Nat,k<n→(P k→step ((k:Int),())=some (.inl (IntKind.i64.wrap ((k:Int)+1),())))∧(¬P k→step ((k:Int),())=some (.inr bad)))
    (hx:(∀ j,j<n→P j)→step ((n:Int),())=some (.inr good)):Yc step ((0:Int),())=some (sel (∀ j,j<n→P j) good bad):=by
  have:=ZpD (ρ:=ρ) 0 n (by omega) hn P (step:=step) (bad:=bad) (good:=good) (fun k _ h _=>hs k h) (fun h=>hx (fun j hj=>h j (by omega) hj))
  refine (show Yc step ((0:Int),())=_ from this).trans ?_
  congr 1
  have e:(∀ j,0≤j→j<n→P j)↔(∀ j,j<n→P j):=⟨fun h j hj=>h j (by omega) hj,fun h j _ hj=>h j hj⟩
  rw [propext e]
theorem XK {t:Ty} {l:List t.den} (h:sm (.sl t) l):Len l:=by
  have h1:(l.length:Int)≤1048576:=h.1
  show l.length≤4611686018427387904
  omega
theorem ZgP {s:List UInt8} (h:sm .str s):s.length≤4611686018427387904:=by
  have h1:(s.length:Int)≤1048576:=h
  omega
theorem ZpR {t:Ty} {l:List t.den} (h:sm (.sl t) l) {x:t.den} (hx:x∈l):sm t x:=h.2 x hx
theorem Jp {t:Ty} {l:List t.den} (h:sm (.sl t) l) {k:Nat} {x:t.den} (hx:l[k]?=some x):sm t x:=h.2 x (List.mem_of_getElem? hx)
theorem Z8 {t:Ty} {l:List t.den} (h:sm (.sl t) l):l.length≤1048576:=by
  have h1:(l.length:Int)≤1048576:=h.1
  omega
theorem Zqt {t:Yb} (h:sm Xc t):Zuo t:=⟨XK (t:=.int .i64) h.1,XK (t:=.int .i64) h.2.1,XK (t:=.int .i64) h.2.2.1⟩
theorem Zf6 {l:List Yb} (h:sm (.sl Xc) l):Zti l:=⟨XK h,fun t ht=>Zqt (ZpR h ht)⟩
theorem Zh9 (t:Yb) (h:Zuo t):∃ r,ZbF t=some r∧(ZcL t→r.2=0∧(r.1.1<0↔∃ v∈Yb.Values t,v<0))∧(¬ZcL t→r.2=1):=by
  unfold ZbF
  rw [ZlV _ h,Option.bind_some]
  by_cases h1:ZcL t
  · rw [if_pos (Xh h1)]
    obtain ⟨x,l,hv⟩:=h1.some
    have h4:(x::l).length≤4611686018427387904:=by rw [←hv];exact h.2.2
    have e2:atI (Yb.Values t) (0:Int)=some x:=by rw [hv];rfl
    rw [e2,Option.bind_some]
    have:=Y3 (l:=l) (ρ:=ZoA×Int) (fun k=>((((k+1:Nat)):Int),(l.take k).foldl min x,(l.take k).foldl max x,())) (step:=fun v=>Vz t v.1 v.2.1 v.2.2.1) (good:=((l.foldl min x,l.foldl max x,()),0))
      (fun k y hy hk=>by
        have hx1:(x::l)[k+1]?=some y:=by simpa using hy
        simp only [List.length_cons] at h4
        simp only [Vz,hv,Yd,hx1,Option.bind_some,show ((k+1:Nat):Int)<((x::l).length:Int) from by simp;omega,if_true]
        rw [Y7 hy,List.foldl_append,List.foldl_append,V4 (by omega) (by omega)]
        rfl)
      (by
        simp only [Vz,hv,List.take_length,show ¬(((l.length+1:Nat):Int)<((x::l).length:Int)) from by simp,if_false])
    refine ⟨_,this,fun _=>⟨rfl,?_⟩,fun hn=>absurd h1 hn⟩
    rw [hv]
    refine (Zis x l).trans ?_
    simp
  · rw [if_neg (by rw [YL h1];simp)]
    exact ⟨_,rfl,fun hn=>absurd hn h1,fun _=>rfl⟩
theorem Zc5 (l:List Yb) (pos:Bool) (h:Zti l):Y6 l pos=some (tr (Zdp l pos)):=by
  unfold Y6
  by_cases h2:l.length=2
  · rw [if_pos (by omega),Jk h.1 (fun k t=>ZcL t∧(pos=true→∀ v∈Yb.Values t,0≤v)) (bad:=false) (good:=true)
      (fun k t hx hk _=>by
        obtain ⟨r,hr,hr1,hr2⟩:=Zh9 t (h.2 t (List.mem_of_getElem? hx))
        simp only [Zbi,show (k:Int)<2 from by omega,if_true,Yd,hx,Option.bind_some,hr]
        by_cases ht:ZcL t
        · obtain ⟨e1,e2⟩:=hr1 ht
          rw [if_pos e1]
          cases pos
          · simp only [Bool.false_eq_true,if_false]
            exact ⟨fun _=>trivial,fun hn=>absurd ⟨ht,fun e=>by cases e⟩ hn⟩
          · simp only [if_true]
            refine ⟨fun hh=>?_,fun hn=>?_⟩
            · rw [if_neg]
              intro hlt
              obtain ⟨v,hv,hv0⟩:=e2.1 hlt
              have:=hh.2 trivial v hv
              omega
            · rw [if_pos]
              apply Classical.byContradiction
              intro hlt
              refine hn ⟨ht,fun _ v hv=>?_⟩
              exact Int.not_lt.1 fun hv0=>hlt (e2.2 ⟨v,hv,hv0⟩)
        · have e1:=hr2 ht
          rw [if_neg (by rw [e1];decide)]
          exact ⟨fun hh=>absurd hh.1 ht,fun _=>rfl⟩)
      (fun _=>by simp only [Zbi,h2];rfl),ZlP]
    congr 1
    refine Vd ⟨fun hh=>⟨h2,fun t ht=>?_⟩,fun hh k t hk=>hh.2 t (List.mem_of_getElem? hk)⟩
    obtain ⟨k,hk⟩:=List.mem_iff_getElem?.1 ht
    exact hh k t hk
  · rw [if_neg (by omega),YL (fun hh=>h2 hh.1)]
def Zdv (l:List YX):List (List UInt8):=l.map YX.Name
def Zkz (l:List YX):Nat:=l.countP (fun p=>YX.Clock p)
def ZnK (n k:Nat) (p:YX):Prop:=(0≤YX.Cap p∧YX.Cap p≤500)∧(k+1=n→YX.Dir p=2∧YX.Cap p=0∧YX.Clock p=false)∧(k+1<n→YX.Dir p=1)
def Zhl (l:List YX):Prop:=2≤l.length∧l.length≤5∧QW (Zdv l) l.length∧Zff l (ZnK l.length)
theorem Zk9 (l:List YX) (h:sm (.sl Zcb) l):ZeI l=some (tr (Zhl l)):=by
  unfold ZeI
  have hs:=Z8 h
  have:=ZgX (l:=l) (ρ:=Bool) (fun k=>((Zdv l).take k,(k:Int),())) (ZnK l.length) (step:=fun v=>VP l v.1 v.2.1) (bad:=false) (good:=tr (2≤l.length∧l.length≤5∧QW (Zdv l) l.length))
    (fun k p hx hk _=>by
      have hn:(Zdv l)[k]?=some (YX.Name p):=by simp [Zdv,hx]
      have e1:IntKind.i64.wrap ((l.length:Int)-1)=((l.length-1:Nat):Int):=by rw [V4 (by omega) (by omega)];omega
      simp only [VP,show (k:Int)<(l.length:Int) from by omega,if_true,Yd,hx,Option.bind_some,e1]
      rw [Z5 (by simp only [List.length_take,List.length_singleton,Zdv,List.length_map];omega),Y7 hn,V4 (by omega) (by omega)]
      unfold ZnK
      by_cases hlast:(k:Int)=((l.length-1:Nat):Int)
      · rw [if_pos hlast]
        have hk1:k+1=l.length:=by omega
        constructor
        · rintro ⟨_,h2,_⟩
          obtain ⟨a,b,c⟩:=h2 hk1
          rw [if_pos a,if_pos b,if_neg (by rw [c];simp)]
          rfl
        · intro hh
          split
          · split
            · split
              · rfl
              · rename_i a b c
                exact absurd ⟨by omega,fun _=>⟨a,b,by simpa using c⟩,fun h'=>by omega⟩ hh
            · rfl
          · rfl
      · rw [if_neg hlast,J7]
        have hk1:k+1<l.length:=by omega
        simp only [Option.bind_some,within_iff]
        constructor
        · rintro ⟨h1,_,h3⟩
          rw [if_pos (h3 hk1),if_pos h1]
          rfl
        · intro hh
          split
          · split
            · rename_i a b
              exact absurd ⟨b,fun h'=>by omega,fun _=>a⟩ hh
            · rfl
          · rfl)
    (fun hA=>by
      have e0:(Zdv l).take l.length=Zdv l:=by rw [show l.length=(Zdv l).length by simp [Zdv],List.take_length]
      simp only [VP,Int.lt_irrefl,if_false,e0,J7,Option.bind_some,show V8 l=some (l.length:Int) from rfl]
      have hlen:(Zdv l).length=l.length:=by simp [Zdv]
      by_cases hw:within (l.length:Int) 2 5=true
      · rw [if_pos hw,JW _ (by rw [hlen];omega),Option.bind_some,hlen]
        rw [within_iff] at hw
        congr 2
        exact Vd ⟨fun hh=>⟨by omega,by omega,hh⟩,fun hh=>hh.2.2⟩
      · rw [if_neg hw,YL]
        intro hh
        exact hw ((within_iff _ _ _).2 (by omega)))
  refine (show Yc (fun v=>VP l v.1 v.2.1) (([]:List (List UInt8)),(0:Int),())=_ from this).trans ?_
  congr 1
  refine ZcM ?_
  rw [QA]
  by_cases hA:Zff l (ZnK l.length)
  · rw [QL hA,QA]
    exact ⟨fun hh=>⟨hh.1,hh.2.1,hh.2.2,hA⟩,fun hh=>⟨hh.1,hh.2.1,hh.2.2.1⟩⟩
  · rw [X8 hA]
    exact ⟨fun hh=>(by cases hh),fun hh=>absurd hh.2.2.2 hA⟩
end Go.Proofs.YtdabmnfkcnkkbaaGreatDoor
/-
  Plain laws: pins by the reference; arcs.
-/
namespace Go.Proofs.YtdabmnfkcnkkbaaGreatDoor
set_option linter.unusedVariables false
set_option linter.unusedSimpArgs false
open Go Go.Sx
theorem Zs8 {n:Nat} (h:n≤1048576) (h1:1≤n):IntKind.i64.wrap ((n:Int)-1)=((n-1:Nat):Int):=by rw [V4 (by omega) (by omega)];omega
theorem Vm {n:Nat} (h:n≤1048576):IntKind.i64.wrap ((n:Int)+1)=((n+1:Nat):Int):=by rw [V4 (by omega) (by omega)];omega
theorem ZhC {l:List YX} {k:Nat} {s:List UInt8}:s ∉ (Zdv l).take k↔∀ (j:Nat) (q:YX),j<k→l[j]?=some q→YX.Name q≠s:=by
  constructor
  · intro h j q hj hq e
    refine h (List.mem_iff_getElem?.2 ⟨j,?_⟩)
    rw [List.getElem?_take,if_pos hj]
    simp [Zdv,hq,e]
  · intro h hm
    obtain ⟨j,hj⟩:=List.mem_iff_getElem?.1 hm
    rw [List.getElem?_take] at hj
    split at hj
    · rename_i hjk
      simp only [Zdv,List.getElem?_map,Option.map_eq_some_iff] at hj
      obtain ⟨q,hq,e⟩:=hj
      exact h j q hjk hq e
    · cases hj
theorem ZlW (c:Z4) (h:sm (.sl Zcb) (Z4.YV c)):Ze2 c=some (sel (Zhl (Z4.YV c)) ((Zkz (Z4.YV c):Int),true) ((0:Int),false)):=by
  unfold Ze2
  have hs:=Z8 h
  by_cases h2:((Z4.YV c).length:Int)<2
  · rw [if_pos h2,X8 (fun hh=>by have:=hh.1;omega)]
  by_cases h5:(5:Int)<((Z4.YV c).length:Int)
  · rw [if_neg h2,if_pos h5,X8 (fun hh=>by have:=hh.2.1;omega)]
  rw [if_neg h2,if_neg h5]
  have e1:IntKind.i64.wrap (((Z4.YV c).length:Int)-1)=(((Z4.YV c).length-1:Nat):Int):=Zs8 hs (by omega)
  have:=ZgX (l:=Z4.YV c) (ρ:=Int×Bool) (fun k=>((((Z4.YV c).take k).countP (fun p=>YX.Clock p):Int),(k:Int),()))
    (fun k p=>(JA (YX.Name p)=true∧∀ (j:Nat) (q:YX),j<k→(Z4.YV c)[j]?=some q→YX.Name q≠YX.Name p)∧ZnK (Z4.YV c).length k p) (step:=fun v=>VU c v.1 v.2.1) (bad:=((0:Int),false)) (good:=((Zkz (Z4.YV c):Int),true))
    (fun k p hx hk _=>by
      have hcnt:((Z4.YV c).take k).countP (fun p=>YX.Clock p)≤5:=by
        have h1:=List.countP_le_length (p:=fun p=>YX.Clock p) (l:=(Z4.YV c).take k)
        rw [List.length_take] at h1;omega
      have hnext:((Z4.YV c).take (k+1)).countP (fun p=>YX.Clock p)=((Z4.YV c).take k).countP (fun p=>YX.Clock p)+if YX.Clock p=true then 1 else 0:=by
        rw [Y7 hx,List.countP_append];simp [List.countP_cons]
      have hname:(YX.Name p).length≤4611686018427387904:=ZgP (Jp h hx).1
      have rest:∀ (v:Int),QV c v (k:Int) p (k:Int)=sel (JA (YX.Name p)=true∧ZnK (Z4.YV c).length k p) (some (Sum.inr (Sum.inl (if YX.Clock p=true then IntKind.i64.wrap (v+1) else v,((k+1:Nat):Int),())))) (some (Sum.inr (Sum.inr (0,false)))):=by
        intro v
        simp only [QV,Int.lt_irrefl,if_false,ZcC _ hname,ZcA,Option.bind_some,e1,Vm (show k≤1048576 by omega),within_iff]
        unfold ZnK
        by_cases hn:JA (YX.Name p)=true
        · by_cases hcap:0≤YX.Cap p∧YX.Cap p≤500
          · by_cases hlast:k+1=(Z4.YV c).length
            · have e2:(k:Int)=(((Z4.YV c).length-1:Nat):Int):=by omega
              have e3:¬((k:Int)<(((Z4.YV c).length-1:Nat):Int)):=by omega
              have e4:¬(k+1<(Z4.YV c).length):=by omega
              rw [if_pos hn,if_pos hcap,if_pos e2]
              by_cases a:YX.Dir p=2
              · by_cases b:YX.Cap p=0
                · by_cases d:YX.Clock p=true
                  · rw [if_pos a,if_pos b,if_pos d,X8]
                    rintro ⟨_,_,h',_⟩
                    have:=(h' hlast).2.2
                    rw [d] at this;cases this
                  · rw [if_pos a,if_pos b,if_neg d,if_neg e3,if_neg d,QL ⟨hn,hcap,fun _=>⟨a,b,by simpa using d⟩,fun h'=>absurd h' e4⟩]
                    simp [d]
                · rw [if_pos a,if_neg b,X8]
                  rintro ⟨_,_,h',_⟩
                  exact b (h' hlast).2.1
              · rw [if_neg a,X8]
                rintro ⟨_,_,h',_⟩
                exact a (h' hlast).1
            · have e2:¬(k:Int)=(((Z4.YV c).length-1:Nat):Int):=by omega
              have e3:(k:Int)<(((Z4.YV c).length-1:Nat):Int):=by omega
              have e4:k+1<(Z4.YV c).length:=by omega
              rw [if_pos hn,if_pos hcap,if_neg e2,if_pos e3]
              by_cases a:YX.Dir p=1
              · rw [if_pos a,QL ⟨hn,hcap,fun h'=>absurd h' hlast,fun _=>a⟩]
                by_cases d:YX.Clock p=true
                · rw [if_pos d,if_pos d]
                · rw [if_neg d,if_neg d]
              · rw [if_neg a,X8]
                rintro ⟨_,_,_,h'⟩
                exact a (h' e4)
          · rw [if_pos hn,if_neg hcap,X8 (fun hh=>hcap hh.2.1)]
        · rw [if_neg hn,X8 (fun hh=>hn hh.1)]
      have inner:∀ (v:Int) (good:(Int×Int×Unit) ⊕ (Int×Bool)),((∀ (j:Nat) (q:YX),j<k→(Z4.YV c)[j]?=some q→YX.Name q≠YX.Name p)→QV c v (k:Int) p (k:Int)=some (.inr good))→
          Yc (fun v'=>QV c v (k:Int) p v'.1) ((0:Int),())=some (sel (∀ j,j<k→∀ q,(Z4.YV c)[j]?=some q→YX.Name q≠YX.Name p) good (.inr (0,false))):=by
        intro v good hg
        refine Zly k (by omega) (fun j=>∀ q,(Z4.YV c)[j]?=some q→YX.Name q≠YX.Name p) (fun j hj=>?_) (fun hh=>hg (fun j q hj hq=>hh j hj q hq))
        obtain ⟨q,hq⟩:∃ q,(Z4.YV c)[j]?=some q:=⟨_,List.getElem?_eq_getElem (by omega)⟩
        simp only [QV,show (j:Int)<(k:Int) from by omega,if_true,Yd,hq,Option.bind_some]
        refine ⟨fun hh=>by rw [if_neg (hh q rfl)],fun hh=>?_⟩
        rw [if_pos]
        apply Classical.byContradiction
        intro hne
        exact hh (fun q' hq'=>by injection hq' with hq';subst hq';exact hne)
      simp only [VU,show (k:Int)<((Z4.YV c).length:Int) from by omega,if_true,Yd,hx,Option.bind_some]
      constructor
      · rintro ⟨⟨a,b⟩,d⟩
        rw [inner _ (.inl (((((Z4.YV c).take (k+1)).countP (fun p=>YX.Clock p):Nat):Int),((k+1:Nat):Int),())) (fun _=>by
          rw [rest,QL ⟨a,d⟩,hnext]
          by_cases hc:YX.Clock p=true
          · rw [if_pos hc,if_pos hc,Vm (by omega)]
          · rw [if_neg hc,if_neg hc];rfl),QL (fun j hj q hq=>b j q hj hq)]
      · intro hh
        rw [inner _ (.inr (0,false)) (fun hn=>by
          rw [rest,X8 (fun h'=>hh ⟨⟨h'.1,hn⟩,h'.2⟩)])]
        by_cases hP:∀ j,j<k→∀ q,(Z4.YV c)[j]?=some q→YX.Name q≠YX.Name p
        · rw [QL hP]
        · rw [X8 hP])
    (fun _=>by simp only [VU,Int.lt_irrefl,if_false,List.take_length];rfl)
  refine (show Yc (fun v=>VU c v.1 v.2.1) ((0:Int),(0:Int),())=_ from this).trans ?_
  congr 1
  have e:Zff (Z4.YV c) (fun k p=>(JA (YX.Name p)=true∧∀ (j:Nat) (q:YX),j<k→(Z4.YV c)[j]?=some q→YX.Name q≠YX.Name p)∧ZnK (Z4.YV c).length k p)↔Zhl (Z4.YV c):=by
    constructor
    · intro hA
      refine ⟨by omega,by omega,fun j s hj hs'=>?_,fun k p hp=>(hA k p hp).2⟩
      simp only [Zdv,List.getElem?_map,Option.map_eq_some_iff] at hs'
      obtain ⟨q,hq,rfl⟩:=hs'
      exact ⟨(hA j q hq).1.1,ZhC.2 (hA j q hq).1.2⟩
    · intro hh k p hp
      have hk:=(List.getElem?_eq_some_iff.1 hp).1
      have hn:=hh.2.2.1 k (YX.Name p) hk (by simp [Zdv,hp])
      exact ⟨⟨hn.1,ZhC.1 hn.2⟩,hh.2.2.2 k p hp⟩
  rw [propext e]
end Go.Proofs.YtdabmnfkcnkkbaaGreatDoor
/-
  Plain laws: arcs.
-/
namespace Go.Proofs.YtdabmnfkcnkkbaaGreatDoor
set_option linter.unusedVariables false
set_option linter.unusedSimpArgs false
open Go Go.Sx
def Zm6 (l:List YX) (i:Int):Bool:=match l[i.toNat]? with
  | some p=>YX.Clock p
  | none=>false
def Zi8 (c:Z4) (a:Yi):Prop :=
  (0≤Yi.From a∧Yi.From a≤((Z4.YV c).length:Int)-2)∧(0≤Yi.To a∧Yi.To a≤((Z4.YV c).length:Int)-1)∧
  ((Yi.Kind a=1∧Zm6 (Z4.YV c) (Yi.From a)=false∧Yi.To a=((Z4.YV c).length:Int)-1∧(1≤Yi.Zbn a∧Yi.Zbn a≤3)∧Zdp (Yi.Delay a) true∧Zdp (Yi.Zhn a) true)∨
   ((Yi.Kind a=2∨Yi.Kind a=3)∧Zm6 (Z4.YV c) (Yi.From a)=true∧Yi.To a=((Z4.YV c).length:Int)-1∧Yi.Zbn a=0∧Zdp (Yi.Delay a) true∧Zdp (Yi.Zhn a) true)∨
   ((Yi.Kind a=4∨Yi.Kind a=5)∧Zm6 (Z4.YV c) (Yi.From a)=true∧Yi.To a<((Z4.YV c).length:Int)-1∧Zm6 (Z4.YV c) (Yi.To a)=false∧Yi.Zbn a=0∧Zdp (Yi.Delay a) false∧(Yi.Zhn a).length=0))
theorem Zi8.kind {c:Z4} {a:Yi} (h:Zi8 c a):1≤Yi.Kind a∧Yi.Kind a≤5:=by
  rcases h.2.2 with h | h | h
  · have:=h.1;omega
  · have:=h.1;omega
  · have:=h.1;omega
theorem ZuH {P Q:Prop} {m:Option Bool} (hm:m=some (tr Q)):(if tr P=true then m else some false)=some (tr (P∧Q)):=by
  by_cases h:P
  · rw [if_pos (Xh h),hm];congr 1;exact Vd ⟨fun q=>⟨h,q⟩,fun q=>q.2⟩
  · rw [if_neg (by rw [YL h];simp),YL (fun q=>h q.1)]
theorem Y2 {P Q:Prop} {_:Decidable P} {m:Option Bool} (hm:P→m=some (tr Q)):(if P then m else some false)=some (tr (P∧Q)):=by
  by_cases h:P
  · rw [if_pos h,hm h];congr 1;exact Vd ⟨fun q=>⟨h,q⟩,fun q=>q.2⟩
  · rw [if_neg h,YL (fun q=>h q.1)]
theorem ZfB {P Q:Prop} {_:Decidable P} {m:Option Bool} (hm:¬P→m=some (tr Q)):(if P then some false else m)=some (tr (¬P∧Q)):=by
  by_cases h:P
  · rw [if_pos h,YL (fun q=>q.1 h)]
  · rw [if_neg h,hm h];congr 1;exact Vd ⟨fun q=>⟨h,q⟩,fun q=>q.2⟩
theorem Zch {P:Prop} {b:Bool} (h:b=true↔P):some b=some (tr P):=by rw [ZnC h]
theorem VA {m:Option Bool} {P Q:Prop} (h:m=some (tr P)) (hpq:P↔Q):m=some (tr Q):=by rw [h,propext hpq]
theorem ZjQ {Q:Prop} (h:¬Q):(some false:Option Bool)=some (tr Q):=by rw [YL h]
theorem Zcc {P:Prop} {m:Option Bool} (h:m=some (tr P)):(m.bind fun b=>some b)=some (tr P):=by rw [h];rfl
theorem Xz {P Q:Prop} {m m2:Option Bool} (h:m=some (tr P)) (h2:P→m2=some (tr Q)):(m.bind fun b=>if b=true then m2 else some false)=some (tr (P∧Q)):=by
  rw [h,Option.bind_some]
  by_cases hp:P
  · rw [if_pos (Xh hp),h2 hp];congr 1;exact Vd ⟨fun q=>⟨hp,q⟩,fun q=>q.2⟩
  · rw [if_neg (by rw [YL hp];simp),YL (fun q=>hp q.1)]
theorem JJ (n a b:Int):Yv n a b=some (tr (a≤n∧n≤b)):=by rw [ZcA];exact Zch (within_iff _ _ _)
theorem JZ (n a b:Int):YT n a b=some (tr (a≤n∧n≤b)):=by rw [J7];exact Zch (within_iff _ _ _)
theorem Zrz {l:List YX} {i:Int} (h0:0≤i) (h1:i<l.length):∃ p,atI l i=some p∧Zm6 l i=YX.Clock p:=by
  obtain ⟨p,h2,h3⟩:=ZqM h0 h1
  exact ⟨p,h2,by simp [Zm6,h3]⟩
theorem Zmz (c:Z4) (a:Yi) (hp:sm (.sl Zcb) (Z4.YV c)) (hd:sm (.sl Xc) (Yi.Delay a)) (hw:sm (.sl Xc) (Yi.Zhn a)) (h2:2≤(Z4.YV c).length):Zf0 c a=some (tr (Zi8 c a)):=by
  unfold Zf0
  have hs:=Z8 hp
  have e1:IntKind.i64.wrap (((Z4.YV c).length:Int)-1)=((Z4.YV c).length:Int)-1:=V4 (by omega) (by omega)
  have e2:IntKind.i64.wrap (((Z4.YV c).length:Int)-1-1)=((Z4.YV c).length:Int)-2:=by rw [V4 (by omega) (by omega)];omega
  rw [e1,e2]
  refine VA (Xz (JJ _ _ _) (fun hF=>Xz (JJ _ _ _) (fun hT=>?_))) (Q:=Zi8 c a) (P:=(0≤Yi.From a∧Yi.From a≤((Z4.YV c).length:Int)-2)∧(0≤Yi.To a∧Yi.To a≤((Z4.YV c).length:Int)-1)∧Zi8 c a) ⟨fun hh=>hh.2.2,fun hh=>⟨hh.1,hh.2.1,hh⟩⟩
  obtain ⟨p,hp1,hp2⟩:=Zrz (l:=Z4.YV c) hF.1 (by omega)
  rw [hp1,Option.bind_some]
  have hdl:=Zf6 hd
  have hsl:=Zf6 hw
  have tt:∀ b,(Y6 (Yi.Delay a) b).bind (fun x=>if x=true then (Y6 (Yi.Zhn a) b).bind (fun y=>some y) else some false)=some (tr (Zdp (Yi.Delay a) b∧Zdp (Yi.Zhn a) b)):=fun b=>Xz (Zc5 _ _ hdl) (fun _=>Zcc (Zc5 _ _ hsl))
  have tz:(Y6 (Yi.Delay a) false).bind (fun x=>if x=true then some (Decidable.decide (((Yi.Zhn a).length:Int)=(0:Int))) else some false)=some (tr (Zdp (Yi.Delay a) false∧(Yi.Zhn a).length=0)):=Xz (Zc5 _ _ hdl) (fun _=>Zch (by rw [decide_eq_true_eq];omega))
  unfold Zi8
  rw [hp2]
  by_cases k1:Yi.Kind a=1
  · simp only [k1,if_true]
    refine VA (ZfB (fun hc=>Y2 (fun hl=>Xz (JJ _ _ _) (fun _=>tt true)))) ?_
    grind
  by_cases k2:Yi.Kind a=2
  · simp only [k2,if_true,Int.reduceEq,if_false]
    refine VA (Y2 (fun hc=>Y2 (fun hl=>Y2 (fun _=>tt true)))) ?_
    grind
  by_cases k3:Yi.Kind a=3
  · simp only [k3,if_true,Int.reduceEq,if_false]
    refine VA (Y2 (fun hc=>Y2 (fun hl=>Y2 (fun _=>tt true)))) ?_
    grind
  have chk:(if YX.Clock p=true then (if Yi.To a<((Z4.YV c).length:Int)-1 then (atI (Z4.YV c) (Yi.To a)).bind (fun x1=>if YX.Clock x1=true then some false else if Yi.Zbn a=0 then (Y6 (Yi.Delay a) false).bind (fun x=>if x=true then some (Decidable.decide (((Yi.Zhn a).length:Int)=(0:Int))) else some false) else some false) else some false) else some false) =
      some (tr (YX.Clock p=true∧Yi.To a<((Z4.YV c).length:Int)-1∧Zm6 (Z4.YV c) (Yi.To a)=false∧Yi.Zbn a=0∧Zdp (Yi.Delay a) false∧(Yi.Zhn a).length=0)):=by
    refine Y2 (fun _=>Y2 (fun hl=>?_))
    obtain ⟨q,hq1,hq2⟩:=Zrz (l:=Z4.YV c) hT.1 (by omega)
    rw [hq1,Option.bind_some,hq2]
    refine VA (ZfB (fun _=>Y2 (fun _=>tz))) ?_
    simp only [Bool.not_eq_true]
  by_cases k4:Yi.Kind a=4
  · simp only [k4,if_true,Int.reduceEq,if_false]
    refine VA chk ?_
    grind
  by_cases k5:Yi.Kind a=5
  · simp only [k5,if_true,Int.reduceEq,if_false]
    refine VA chk ?_
    grind
  · simp only [k1,k2,k3,k4,k5,if_false]
    refine ZjQ ?_
    grind
def Zgr (l:List YX):Int:=Za9 (fun p=>YX.Clock p) l
theorem Ziw (c:Z4) (h:sm (.sl Zcb) (Z4.YV c)):Zcj c=some (Zgr (Z4.YV c)):=by
  unfold Zcj
  rw [Qu (XK h) (fun p=>YX.Clock p) (fun p _=>rfl),Option.bind_some]
  rfl
theorem ZbJ (c:Z4) (h:sm (.sl Zcb) (Z4.YV c)):JV c=some (((Z4.YV c).length:Int)-1):=by
  have hs:=Z8 h
  show some (IntKind.i64.wrap (((Z4.YV c).length:Int)-1))=_
  rw [V4 (by omega) (by omega)]
theorem ZdL (c:Z4) (i:Int) (h:sm (.sl Zcb) (Z4.YV c)):Jd c i=some (tr (0≤i∧i≤((Z4.YV c).length:Int)-2)):=by
  have hs:=Z8 h
  unfold Jd
  rw [ZbJ c h,Option.bind_some,V4 (by omega) (by omega)]
  refine VA (Zcc (JZ _ _ _)) ?_
  omega
def Zr6 (c:Z4) (a:Yi):Prop :=
  ((Yi.Kind a=4∨Yi.Kind a=5)∧Yi.Zbn a=0∧(Yi.Zhn a).length=0∧Zdp (Yi.Delay a) false∧Yi.From a=Zgr (Z4.YV c)∧0≤Yi.From a∧(0≤Yi.To a∧Yi.To a≤((Z4.YV c).length:Int)-2)∧Yi.To a≠Yi.From a)∨
  (¬(Yi.Kind a=4∨Yi.Kind a=5)∧Zdp (Yi.Delay a) true∧Zdp (Yi.Zhn a) true∧Yi.To a=((Z4.YV c).length:Int)-1∧(0≤Yi.From a∧Yi.From a≤((Z4.YV c).length:Int)-2)∧
    ((Yi.Kind a=1∧Zm6 (Z4.YV c) (Yi.From a)=false∧(1≤Yi.Zbn a∧Yi.Zbn a≤3))∨((Yi.Kind a=2∨Yi.Kind a=3)∧Zm6 (Z4.YV c) (Yi.From a)=true∧Yi.Zbn a=0)))
theorem Zla (k:Int):ZeJ k=some (tr (k=4∨k=5)):=by
  unfold ZeJ
  split
  · rename_i h;rw [Xh (.inl h)]
  · rename_i h
    exact Zch (by rw [decide_eq_true_eq];omega)
theorem Znf (c:Z4) (a:Yi) (hp:sm (.sl Zcb) (Z4.YV c)) (hd:sm (.sl Xc) (Yi.Delay a)) (hw:sm (.sl Xc) (Yi.Zhn a)):Zcl c a=some (tr (Zr6 c a)):=by
  unfold Zcl
  have hdl:=Zf6 hd
  have hsl:=Zf6 hw
  rw [Zla,Option.bind_some]
  by_cases hk:Yi.Kind a=4∨Yi.Kind a=5
  · rw [if_pos (Xh hk)]
    refine VA (Y2 (fun _=>Y2 (fun _=>Xz (ZcO _ _ hdl) (fun _=>?_)))) (P:=Yi.Zbn a=0∧((Yi.Zhn a).length:Int)=0∧Zdp (Yi.Delay a) false∧(Yi.From a=Zgr (Z4.YV c)∧0≤Yi.From a∧(0≤Yi.To a∧Yi.To a≤((Z4.YV c).length:Int)-2)∧Yi.To a≠Yi.From a)) ?_
    · rw [Ziw c hp,Option.bind_some]
      refine Y2 (fun _=>Y2 (fun _=>Xz (ZdL c _ hp) (fun _=>Zch ?_)))
      rw [Bool.not_eq_true',decide_eq_false_iff_not]
    · unfold Zr6
      constructor
      · rintro ⟨x1,x2,x3,x4⟩
        exact .inl ⟨hk,x1,by omega,x3,x4⟩
      · rintro (⟨_,x1,x2,x3,x4⟩ | ⟨x,_⟩)
        · exact ⟨x1,by omega,x3,x4⟩
        · exact absurd hk x
  · rw [if_neg (by rw [YL hk];simp)]
    refine VA (Xz (ZcO _ _ hdl) (fun _=>Xz (ZcO _ _ hsl) (fun _=>?_))) (P:=Zdp (Yi.Delay a) true∧Zdp (Yi.Zhn a) true∧(Yi.To a=((Z4.YV c).length:Int)-1∧(0≤Yi.From a∧Yi.From a≤((Z4.YV c).length:Int)-2)∧
      ((Yi.Kind a=1∧Zm6 (Z4.YV c) (Yi.From a)=false∧(1≤Yi.Zbn a∧Yi.Zbn a≤3))∨((Yi.Kind a=2∨Yi.Kind a=3)∧Zm6 (Z4.YV c) (Yi.From a)=true∧Yi.Zbn a=0)))) ?_
    · rw [ZbJ c hp,Option.bind_some]
      refine Y2 (fun _=>Xz (ZdL c _ hp) (fun hF=>?_))
      obtain ⟨p,hp1,hp2⟩:=Zrz (l:=Z4.YV c) hF.1 (by omega)
      rw [hp1,hp2]
      simp only [Option.bind_some]
      by_cases k1:Yi.Kind a=1
      · simp only [k1,if_true]
        refine VA (ZfB (fun _=>Zcc (JZ _ _ _))) ?_
        grind
      by_cases k2:Yi.Kind a=2
      · simp only [k2,if_true,Int.reduceEq,if_false]
        refine VA (Y2 (fun _=>Zch (decide_eq_true_iff))) ?_
        grind
      by_cases k3:Yi.Kind a=3
      · simp only [k3,if_true,Int.reduceEq,if_false]
        refine VA (Y2 (fun _=>Zch (decide_eq_true_iff))) ?_
        grind
      · simp only [k1,k2,k3,if_false]
        refine ZjQ ?_
        grind
    · unfold Zr6
      constructor
      · intro x;exact .inr ⟨hk,x⟩
      · rintro (⟨x,_⟩ | ⟨_,x⟩)
        · exact absurd x hk
        · exact x
end Go.Proofs.YtdabmnfkcnkkbaaGreatDoor
/-
  Plain laws: cells and libraries.
-/
namespace Go.Proofs.YtdabmnfkcnkkbaaGreatDoor
set_option linter.unusedVariables false
set_option linter.unusedSimpArgs false
open Go Go.Sx
def Zev (o a:Yi):Prop:=Yi.Kind o=Yi.Kind a∧Yi.From o=Yi.From a∧Yi.To o=Yi.To a
def Apart (l:List Yi) (k:Nat) (a:Yi):Prop:=∀ (j:Nat) (o:Yi),j<k→l[j]?=some o→¬Zev o a
structure ZmD (c:Z4):Prop where
  name:(Z4.Name c).length≤4611686018427387904
  pins:sm (.sl Zcb) (Z4.YV c)
  arcs:sm (.sl Zdz) (Z4.JB c)
  truth:sm (.sl (.int .i64)) (Z4.Truth c)
theorem ZrM {c:Z4} (h:sm XZ c):ZmD c:=⟨ZgP h.1,h.2.2.1,h.2.2.2.1,h.2.2.2.2.1⟩
theorem ZsV {a:Yi} (h:sm Zdz a):sm (.sl Xc) (Yi.Delay a)∧sm (.sl Xc) (Yi.Zhn a):=⟨h.2.2.2.2.1,h.2.2.2.2.2.1⟩
theorem Zix (o a:Yi):Qm o a=some (tr (Zev o a)):=by
  unfold Qm Zev
  exact Y2 (fun _=>Y2 (fun _=>Zch decide_eq_true_iff))
theorem Zk8 (c:Z4) (h:ZmD c):ZaT c=some (tr ((Z4.JB c).length≤8∧Zff (Z4.JB c) (fun k a=>Zr6 c a∧Apart (Z4.JB c) k a))):=by
  unfold ZaT
  have hs:=Z8 h.arcs
  rw [Jk (XK h.arcs) (fun k a=>Zr6 c a∧Apart (Z4.JB c) k a) (bad:=false) (good:=decide ((Z4.JB c).length≤8))
    (fun k a hx hk _=>by
      obtain ⟨h1,h2⟩:=ZsV (Jp h.arcs hx)
      simp only [JF,show (k:Int)<((Z4.JB c).length:Int) from by omega,if_true,Yd,hx,Option.bind_some,Znf c a h.pins h1 h2]
      by_cases hA:Zr6 c a
      · rw [if_pos (Xh hA),Z5 (by omega),Z5 (by omega)]
        simp only [Int.toNat_natCast,Int.toNat_zero,List.drop_zero,Nat.sub_zero]
        rw [X9 (by show ((Z4.JB c).take k).length≤4611686018427387904;rw [List.length_take];omega) (fun o=>tr (Zev o a)) (fun o _=>Zix o a),Option.bind_some]
        have e:((Z4.JB c).take k).any (fun o=>tr (Zev o a))=true↔¬Apart (Z4.JB c) k a:=by
          rw [List.any_eq_true]
          constructor
          · rintro ⟨o,ho,hs⟩ hap
            obtain ⟨j,hj⟩:=List.mem_iff_getElem?.1 ho
            rw [List.getElem?_take] at hj
            split at hj
            · rename_i hjk;exact hap j o hjk hj ((QA _).1 hs)
            · cases hj
          · intro hn
            apply Classical.byContradiction
            intro hno
            refine hn (fun j o hj ho hs=>hno ⟨o,?_,Xh hs⟩)
            exact List.mem_iff_getElem?.2 ⟨j,by rw [List.getElem?_take,if_pos hj];exact ho⟩
        constructor
        · rintro ⟨_,hap⟩;rw [if_neg (fun hh=>e.1 hh hap)]
        · intro hn;rw [if_pos (e.2 (fun hap=>hn ⟨hA,hap⟩))]
      · rw [if_neg (by rw [YL hA];simp)]
        exact ⟨fun hh=>absurd hh.1 hA,fun _=>rfl⟩)
    (fun _=>by
      simp only [JF,Int.lt_irrefl,if_false]
      congr 2
      rw [decide_eq_decide];omega)]
  congr 1
  refine ZcM ?_
  rw [QA]
  by_cases hA:Zff (Z4.JB c) (fun k a=>Zr6 c a∧Apart (Z4.JB c) k a)
  · rw [QL hA,decide_eq_true_eq];exact ⟨fun h=>⟨h,hA⟩,fun h=>h.1⟩
  · rw [X8 hA];exact ⟨fun h=>(by cases h),fun h=>absurd h.2 hA⟩
def ZnI (c:Z4) (k:Int):Prop:=∃ a∈Z4.JB c,Yi.Kind a=k
theorem ZcQ (c:Z4) (k:Int) (h:ZmD c):Q8 c k=some (tr (ZnI c k)):=by
  unfold Q8
  rw [Qp (XK h.arcs) (fun a=>decide (Yi.Kind a=k)) (fun a _=>rfl),Option.bind_some]
  refine Zch ?_
  rw [List.any_eq_true]
  simp only [decide_eq_true_eq,ZnI]
def ZeB (c:Z4):Prop :=
  (Z4.Kind c=1∧Zkz (Z4.YV c)=0∧(Z4.Truth c).length=2 ^ ((Z4.YV c).length-1)∧Zgl (Z4.Truth c) 0 1)∨
  (Z4.Kind c=2∧Zkz (Z4.YV c)=1∧(Z4.Truth c).length=0∧¬ZnI c 1∧(ZnI c 2↔¬ZnI c 3))∨
  (Z4.Kind c=3∧Zkz (Z4.YV c)=1∧(Z4.Truth c).length=0∧ZnI c 1∧ZnI c 2∧¬ZnI c 3)
theorem ZrB {n:Nat} (h:n≤4):(2:Nat) ^ n≤16:=by
  calc (2:Nat) ^ n≤2 ^ 4:=Nat.pow_le_pow_right (by omega) h
    _=16:=rfl
theorem ZuF {m:Nat} (h:m≤4):IntKind.i64.wrap ((1:Int)*(2:Int) ^ min m (IntKind.bits IntKind.i64))=((2 ^ m:Nat):Int):=by
  have hb:min m (IntKind.bits IntKind.i64)=m:=Nat.min_eq_left (by show m≤64;omega)
  have e:(1:Int)*(2:Int) ^ m=((2 ^ m:Nat):Int):=by simp
  rw [hb,e]
  have h16:=ZrB h
  clear hb e
  generalize 2 ^ m=g at h16 ⊢
  rw [V4 (by omega) (by omega)]
theorem Zkj (c:Z4) (h:ZmD c) (hp:Zhl (Z4.YV c)):Zai c=some (tr (ZeB c)):=by
  unfold Zai
  have h2:=hp.1
  have h5:=hp.2.1
  refine (show Yc (fun v=>X5 c v.1 v.2.1) ((0:Int),(0:Int),())=_ from Y3 (l:=Z4.YV c) (ρ:=Bool) (fun k=>((((Z4.YV c).take k).countP (fun p=>YX.Clock p):Int),(k:Int),())) (step:=fun v=>X5 c v.1 v.2.1)
    (fun k p hx hk=>by
      have hcnt:((Z4.YV c).take k).countP (fun p=>YX.Clock p)≤5:=by
        have h1:=List.countP_le_length (p:=fun p=>YX.Clock p) (l:=(Z4.YV c).take k)
        rw [List.length_take] at h1;omega
      have hnext:((Z4.YV c).take (k+1)).countP (fun p=>YX.Clock p)=((Z4.YV c).take k).countP (fun p=>YX.Clock p)+if YX.Clock p=true then 1 else 0:=by
        rw [Y7 hx,List.countP_append];simp [List.countP_cons]
      simp only [X5,show (k:Int)<((Z4.YV c).length:Int) from by omega,if_true,Yd,hx,Option.bind_some,hnext]
      by_cases hc:YX.Clock p=true
      · rw [if_pos hc,if_pos hc,Vm (by omega),Vm (by omega)]
      · rw [if_neg hc,if_neg hc,Vm (by omega)];rfl)
    ?_)
  have hout:=ZbJ c h.pins
  simp only [X5,Int.lt_irrefl,if_false,List.take_length,hout,Option.bind_some,show (((Z4.YV c).length:Int)-1).toNat=(Z4.YV c).length-1 from by omega,ZuF (show (Z4.YV c).length-1≤4 by omega)]
  have e00:((Z4.YV c).countP (fun p=>YX.Clock p):Int)=0↔Zkz (Z4.YV c)=0:=by unfold Zkz;omega
  have e01:((Z4.YV c).countP (fun p=>YX.Clock p):Int)=1↔Zkz (Z4.YV c)=1:=by unfold Zkz;omega
  unfold ZeB
  by_cases k1:Z4.Kind c=1
  · simp only [k1,if_true]
    by_cases hc:Zkz (Z4.YV c)=0
    · rw [if_pos (e00.2 hc),Z5 (by omega)]
      by_cases ht:(Z4.Truth c).length=2 ^ ((Z4.YV c).length-1)
      · rw [if_pos (by rw [ht]),ZaV _ _ _ (XK h.truth),Option.bind_some]
        congr 2
        refine (ZnC ?_).symm
        rw [Zih]
        exact ⟨fun hh=>.inl ⟨trivial,hc,ht,hh⟩,fun hh=>by grind⟩
      · rw [if_neg (by omega),YL (by grind)]
    · rw [if_neg (fun hh=>hc (e00.1 hh)),YL (by grind)]
  by_cases k2:Z4.Kind c=2
  · simp only [k2,if_true,Int.reduceEq,if_false]
    by_cases hc:Zkz (Z4.YV c)=1
    · rw [if_pos (e01.2 hc)]
      by_cases ht:(Z4.Truth c).length=0
      · rw [if_pos (by omega),ZcQ c 1 h,Option.bind_some]
        by_cases h1:ZnI c 1
        · rw [if_pos (Xh h1),YL (by grind)]
        · rw [if_neg (by rw [YL h1];simp),ZcQ c 2 h,ZcQ c 3 h]
          simp only [Option.bind_some]
          congr 2
          refine (ZnC ?_).symm
          by_cases a:ZnI c 2<;>by_cases b:ZnI c 3<;>simp only [Xh,YL,a,b,not_false_eq_true]<;>grind
      · rw [if_neg (by omega),YL (by grind)]
    · rw [if_neg (fun hh=>hc (e01.1 hh)),YL (by grind)]
  by_cases k3:Z4.Kind c=3
  · simp only [k3,if_true,Int.reduceEq,if_false]
    by_cases hc:Zkz (Z4.YV c)=1
    · rw [if_pos (e01.2 hc)]
      by_cases ht:(Z4.Truth c).length=0
      · rw [if_pos (by omega),ZcQ c 1 h,Option.bind_some]
        by_cases h1:ZnI c 1
        · rw [if_pos (Xh h1),ZcQ c 2 h,Option.bind_some]
          by_cases h2:ZnI c 2
          · rw [if_pos (Xh h2),ZcQ c 3 h,Option.bind_some]
            congr 2
            refine (ZnC ?_).symm
            rw [Bool.not_eq_true',←Bool.not_eq_true,QA]
            grind
          · rw [if_neg (by rw [YL h2];simp),YL (by grind)]
        · rw [if_neg (by rw [YL h1];simp),YL (by grind)]
      · rw [if_neg (by omega),YL (by grind)]
    · rw [if_neg (fun hh=>hc (e01.1 hh)),YL (by grind)]
  · simp only [k1,k2,k3,if_false]
    rw [YL (by grind)]
def ZuC (c:Z4):Prop:=JA (Z4.Name c)=true∧Zhl (Z4.YV c)∧((Z4.JB c).length≤8∧Zff (Z4.JB c) (fun k a=>Zr6 c a∧Apart (Z4.JB c) k a))∧(0≤Z4.Zr7 c∧Z4.Zr7 c≤100000)∧(0≤Z4.Zhh c∧Z4.Zhh c≤100000)∧ZeB c
def Zid (c:Z4):Prop:=JA (Z4.Name c)=true∧Zhl (Z4.YV c)∧((Z4.JB c).length≤8∧Zff (Z4.JB c) (fun k a=>Zi8 c a∧Apart (Z4.JB c) k a))∧(0≤Z4.Zr7 c∧Z4.Zr7 c≤100000)∧(0≤Z4.Zhh c∧Z4.Zhh c≤100000)∧ZeB c
theorem ZpI {l:List YX} {i j:Nat} {p q:YX} (hij:i<j) (hp:l[i]?=some p) (hq:l[j]?=some q) (cp:YX.Clock p=true) (cq:YX.Clock q=true):2≤Zkz l:=by
  unfold Zkz
  have e:l.countP (fun p=>YX.Clock p)=(l.take j).countP (fun p=>YX.Clock p)+(l.drop j).countP (fun p=>YX.Clock p):=by rw [←List.countP_append,List.take_append_drop]
  have h1:0<(l.take j).countP (fun p=>YX.Clock p):=List.countP_pos_iff.2 ⟨p,List.mem_iff_getElem?.2 ⟨i,by rw [List.getElem?_take,if_pos hij];exact hp⟩,cp⟩
  have h2:0<(l.drop j).countP (fun p=>YX.Clock p):=List.countP_pos_iff.2 ⟨q,List.mem_iff_getElem?.2 ⟨0,by rw [List.getElem?_drop];exact hq⟩,cq⟩
  omega
theorem ZmI {l:List YX} (h:Zkz l≤1) {i:Int} (h0:0≤i):Zm6 l i=true↔i=Zgr l:=by
  unfold Zgr Za9 Zm6
  constructor
  · intro hc
    split at hc
    · rename_i p hp
      split
      · rename_i j hj
        obtain ⟨hj1,hj2,hj3⟩:=List.findIdx?_eq_some_iff_getElem.1 hj
        have hjg:l[j]?=some l[j]:=List.getElem?_eq_getElem hj1
        rcases Nat.lt_trichotomy i.toNat j with hlt | heq | hlt
        · have:=ZpI hlt hp hjg hc hj2;omega
        · omega
        · have:=ZpI hlt hjg hp hj2 hc;omega
      · rename_i hn
        rw [List.findIdx?_eq_none_iff] at hn
        have:=hn p (List.mem_of_getElem? hp)
        rw [hc] at this;cases this
    · cases hc
  · intro hi
    split at hi
    · rename_i j hj
      obtain ⟨hj1,hj2,hj3⟩:=List.findIdx?_eq_some_iff_getElem.1 hj
      subst hi
      rw [Int.toNat_natCast,List.getElem?_eq_getElem hj1]
      exact hj2
    · omega
theorem ZpZ {l:List YX} (h:Zhl l):Zm6 l ((l.length:Int)-1)=false:=by
  have h2:=h.1
  have hp:l[l.length-1]?=some l[l.length-1]:=List.getElem?_eq_getElem (by omega)
  have:=((h.2.2.2 _ _ hp).2.1 (by omega)).2.2
  unfold Zm6
  rw [show ((l.length:Int)-1).toNat=l.length-1 by omega,hp]
  exact this
theorem ZqK {c:Z4} (hp:Zhl (Z4.YV c)) (hk:Zkz (Z4.YV c)≤1) (a:Yi):Zr6 c a↔Zi8 c a:=by
  have h2:=hp.1
  have hF:0≤Yi.From a→(Zm6 (Z4.YV c) (Yi.From a)=true↔Yi.From a=Zgr (Z4.YV c)):=fun h=>ZmI hk h
  have hT:0≤Yi.To a→(Zm6 (Z4.YV c) (Yi.To a)=true↔Yi.To a=Zgr (Z4.YV c)):=fun h=>ZmI hk h
  have hlast:=ZpZ hp
  have hfr:∀ i,Zm6 (Z4.YV c) i=true→i<((Z4.YV c).length:Int):=by
    intro i hi
    unfold Zm6 at hi
    split at hi
    · rename_i p hp'
      have:=(List.getElem?_eq_some_iff.1 hp').1
      omega
    · cases hi
  unfold Zr6 Zi8
  generalize Zgr (Z4.YV c)=ck at *
  constructor
  · rintro (⟨k,s,sl,td,fc,f0,⟨t0,t1⟩,ne⟩ | ⟨k,td,ts,te,⟨f0,f1⟩,hh⟩)
    · have hclk:=(hF f0).2 fc
      have hnl:Yi.From a≠((Z4.YV c).length:Int)-1:=fun e=>by rw [e,hlast] at hclk;cases hclk
      have:=hfr _ hclk
      refine ⟨⟨f0,by omega⟩,⟨t0,by omega⟩,.inr (.inr ⟨k,hclk,by omega,?_,s,td,sl⟩)⟩
      rw [←Bool.not_eq_true]
      intro hc
      exact ne (((hT t0).1 hc).trans fc.symm)
    · refine ⟨⟨f0,f1⟩,⟨by omega,by omega⟩,?_⟩
      rcases hh with ⟨k1,c1,s1⟩ | ⟨k1,c1,s1⟩
      · exact .inl ⟨k1,c1,te,s1,td,ts⟩
      · exact .inr (.inl ⟨k1,c1,te,s1,td,ts⟩)
  · rintro ⟨⟨f0,f1⟩,⟨t0,t1⟩,(⟨k,c1,te,s,td,ts⟩ | ⟨k,c1,te,s,td,ts⟩ | ⟨k,c1,tl,c2,s,td,sl⟩)⟩
    · exact .inr ⟨by omega,td,ts,te,⟨f0,f1⟩,.inl ⟨k,c1,s⟩⟩
    · exact .inr ⟨by omega,td,ts,te,⟨f0,f1⟩,.inr ⟨k,c1,s⟩⟩
    · refine .inl ⟨k,s,sl,td,(hF f0).1 c1,f0,⟨t0,by omega⟩,fun e=>?_⟩
      rw [e,c1] at c2;cases c2
theorem ZeB.Zkz {c:Z4} (h:ZeB c):Zkz (Z4.YV c)≤1:=by
  rcases h with h | h | h
  · have:=h.2.1;omega
  · have:=h.2.1;omega
  · have:=h.2.1;omega
theorem Zsf (c:Z4):ZuC c↔Zid c:=by
  unfold ZuC Zid
  constructor
  · rintro ⟨a,b,⟨c1,d⟩,e,f,g⟩
    exact ⟨a,b,⟨c1,fun k x hx=>⟨(ZqK b g.Zkz x).1 (d k x hx).1,(d k x hx).2⟩⟩,e,f,g⟩
  · rintro ⟨a,b,⟨c1,d⟩,e,f,g⟩
    exact ⟨a,b,⟨c1,fun k x hx=>⟨(ZqK b g.Zkz x).2 (d k x hx).1,(d k x hx).2⟩⟩,e,f,g⟩
theorem Zma (c:Z4) (h:sm XZ c):ZfH c=some (tr (Zid c)):=by
  have hc:=ZrM h
  unfold ZfH
  refine VA (Xz (by rw [Ze8];exact Zch Iff.rfl) (fun _=>Xz (Zk9 _ hc.pins) (fun hp=>Xz (Zk8 c hc) (fun _=>Xz (JZ _ _ _) (fun _=>Xz (JZ _ _ _) (fun _=>Zcc (Zkj c hc hp))))))) ?_
  exact (Zsf c)
end Go.Proofs.YtdabmnfkcnkkbaaGreatDoor
/-
  Plain laws: cells by the reference; libraries.
-/
namespace Go.Proofs.YtdabmnfkcnkkbaaGreatDoor
set_option linter.unusedVariables false
set_option linter.unusedSimpArgs false
open Go Go.Sx
def ZdF (l:List Yi):List Int:=(List.range 6).map (fun (j:Nat)=>((l.countP (fun a=>decide (Yi.Kind a=(j:Int))):Nat):Int))
theorem ZbL (l:List Yi) {j:Nat} (h:j<6):(ZdF l)[j]?=some ((l.countP (fun a=>decide (Yi.Kind a=(j:Int))):Nat):Int):=by
  simp [ZdF,List.getElem?_range h]
theorem ZkD (c:Z4) (h:ZmD c) (hk:∀ a∈Z4.JB c,1≤Yi.Kind a∧Yi.Kind a≤5):Zd2 c=some (ZdF (Z4.JB c)):=by
  unfold Zd2
  have hs:=Z8 h.arcs
  have h0:List.replicate (Int.toNat (6:Int)) (0:Int)=ZdF ((Z4.JB c).take 0):=by simp [ZdF];decide
  rw [h0]
  refine Y3 (l:=Z4.JB c) (ρ:=List Int) (fun k=>((k:Int),ZdF ((Z4.JB c).take k),())) (step:=fun v=>JQ c v.1 v.2.1)
    (fun k a hx hlt=>?_) (by simp only [JQ,Int.lt_irrefl,if_false,List.take_length])
  obtain ⟨k1,k5⟩:=hk a (List.mem_of_getElem? hx)
  have hkn:Yi.Kind a=(((Yi.Kind a).toNat:Nat):Int):=by omega
  have hcnt:∀ j:Nat,((Z4.JB c).take k).countP (fun a=>decide (Yi.Kind a=(j:Int)))≤1048576:=by
    intro j
    have h1:=List.countP_le_length (p:=fun a=>decide (Yi.Kind a=(j:Int))) (l:=(Z4.JB c).take k)
    rw [List.length_take] at h1;omega
  simp only [JQ,show (k:Int)<((Z4.JB c).length:Int) from by omega,if_true,Yd,hx,Option.bind_some]
  rw [Qd (by omega) (ZbL _ (show (Yi.Kind a).toNat<6 by omega)),Option.bind_some,Vm (hcnt _),Vm (by omega)]
  congr 3
  rw [Prod.mk.injEq]
  refine ⟨?_,rfl⟩
  apply List.ext_getElem?
  intro j
  by_cases hj:(Yi.Kind a).toNat=j
  · subst hj
    rw [List.getElem?_set_self (by simp [ZdF];omega),ZbL _ (by omega),Y7 hx,List.countP_append]
    congr 2
    rw [List.countP_cons,List.countP_nil]
    simp [←hkn]
  · rw [List.getElem?_set_ne hj]
    by_cases h6:j<6
    · rw [ZbL _ h6,ZbL _ h6,Y7 hx,List.countP_append]
      congr 2
      rw [List.countP_cons,List.countP_nil]
      have:¬Yi.Kind a=(j:Int):=by omega
      simp [this]
    · rw [List.getElem?_eq_none (by simp [ZdF];omega),List.getElem?_eq_none (by simp [ZdF];omega)]
theorem ZkY (c:Z4) (j:Nat):0<(Z4.JB c).countP (fun a=>decide (Yi.Kind a=(j:Int)))↔ZnI c j:=by
  rw [List.countP_pos_iff]
  simp only [decide_eq_true_eq,ZnI]
theorem ZjR (c:Z4) (h:ZmD c) (hp:Zhl (Z4.YV c)) (hk1:Z4.Kind c=1) :
    Yc (fun v=>Za2 c ((Zkz (Z4.YV c):Int),true) v.1) ((0:Int),())=some (.inr (tr (ZeB c))):=by
  have h2:=hp.1
  have h5:=hp.2.1
  have hs:=Z8 h.truth
  have e1:IntKind.i64.wrap (((Z4.YV c).length:Int)-1)=((Z4.YV c).length:Int)-1:=V4 (by omega) (by omega)
  have e2:IntKind.u64.wrap (((Z4.YV c).length:Int)-1)=((Z4.YV c).length:Int)-1:=IntWalk.u64_in _ (by omega)
  rw [Jk (XK h.truth) (fun k x=>0≤x∧x≤1) (bad:=.inr false) (good:=.inr (tr (Zkz (Z4.YV c)=0∧(Z4.Truth c).length=2 ^ ((Z4.YV c).length-1))))
    (fun k x hx hk _=>by
      simp only [Za2,show (k:Int)<((Z4.Truth c).length:Int) from by omega,if_true,Yd,hx,Option.bind_some,ZcA,within_iff]
      exact ⟨fun hh=>by rw [if_pos hh],fun hh=>by rw [if_neg hh]⟩)
    (fun _=>by
      simp only [Za2,Int.lt_irrefl,if_false,e1,e2]
      by_cases hc:Zkz (Z4.YV c)=0
      · rw [if_pos (by omega),Z5 (by omega),show (((Z4.YV c).length:Int)-1).toNat=(Z4.YV c).length-1 by omega,ZuF (by omega)]
        congr 2
        congr 1
        refine (ZnC ?_).symm
        rw [decide_eq_true_eq]
        constructor
        · intro hh;exact ⟨hc,by omega⟩
        · intro hh;rw [hh.2]
      · rw [if_neg (by omega),YL (fun hh=>hc hh.1)])]
  congr 1
  by_cases hA:Zff (Z4.Truth c) (fun k x=>0≤x∧x≤1)
  · rw [QL hA]
    congr 1
    refine Vd ?_
    have hAll:Zgl (Z4.Truth c) 0 1:=fun x hx=>by
      obtain ⟨k,hk⟩:=List.mem_iff_getElem?.1 hx
      exact hA k x hk
    unfold ZeB
    grind
  · rw [X8 hA,YL]
    intro hh
    rcases hh with hh | hh | hh
    · exact hA (fun k x hk=>hh.2.2.2 x (List.mem_of_getElem? hk))
    · have:=hh.1;omega
    · have:=hh.1;omega
theorem Zmx (c:Z4) (hsm:sm XZ c):ZfY c=some (tr (Zid c)):=by
  have h:=ZrM hsm
  have hs:=Z8 h.arcs
  unfold ZfY
  rw [ZlW c h.pins,Option.bind_some]
  by_cases hp':¬Zhl (Z4.YV c)
  · rw [X8 hp',YL (fun hh=>hp' hh.2.1)];rfl
  have hp:=Classical.not_not.1 hp'
  rw [QL hp]
  simp only [if_true]
  refine VA (Xz (P:=JA (Z4.Name c)=true) (by rw [ZcC _ h.name];exact Zch Iff.rfl) (fun hn=>ZfB (fun h8=>Xz (JJ _ _ _) (fun hl=>Xz (JJ _ _ _) (fun he=>?_))))) (P:=JA (Z4.Name c)=true∧¬((8:Int)<((Z4.JB c).length:Int))∧(0≤Z4.Zr7 c∧Z4.Zr7 c≤100000)∧(0≤Z4.Zhh c∧Z4.Zhh c≤100000)∧(Zff (Z4.JB c) (fun k a=>Zi8 c a∧Apart (Z4.JB c) k a)∧ZeB c)) ?_
  · rw [Jk (XK h.arcs) (fun k a=>Zi8 c a∧Apart (Z4.JB c) k a) (bad:=false) (good:=tr (ZeB c))
      (fun k a hx hk _=>by
        obtain ⟨h1,h2⟩:=ZsV (Jp h.arcs hx)
        simp only [Zc2,show (k:Int)<((Z4.JB c).length:Int) from by omega,if_true,Yd,hx,Option.bind_some,Zmz c a h.pins h1 h2 hp.1]
        have inner:Yc (fun v=>Za1 c (k:Int) a v.1) ((0:Int),())=some (sel (∀ j,j<k→∀ o,(Z4.JB c)[j]?=some o→¬Zev o a) (.inl (IntKind.i64.wrap ((k:Int)+1),())) (.inr false)):=by
          refine Zly k (by omega) (fun j=>∀ o,(Z4.JB c)[j]?=some o→¬Zev o a) (fun j hj=>?_) (fun _=>by simp only [Za1,Int.lt_irrefl,if_false])
          obtain ⟨o,ho⟩:∃ o,(Z4.JB c)[j]?=some o:=⟨_,List.getElem?_eq_getElem (by omega)⟩
          simp only [Za1,show (j:Int)<(k:Int) from by omega,if_true,Yd,ho,Option.bind_some]
          have e:(∀ o',some o=some o'→¬Zev o' a)↔¬Zev o a:=⟨fun hh=>hh o rfl,fun hh o' ho'=>by injection ho' with ho';subst ho';exact hh⟩
          rw [e]
          unfold Zev
          constructor
          · intro hh
            split
            · split
              · split
                · exact absurd ⟨‹_›,‹_›,‹_›⟩ hh
                · rfl
              · rfl
            · rfl
          · intro hh
            have hh:=Classical.not_not.1 hh
            rw [if_pos hh.1,if_pos hh.2.1,if_pos hh.2.2]
        have eap:Apart (Z4.JB c) k a↔(∀ j,j<k→∀ o,(Z4.JB c)[j]?=some o→¬Zev o a):=⟨fun hh j hj o ho=>hh j o hj ho,fun hh j o hj ho=>hh j hj o ho⟩
        by_cases hA:Zi8 c a
        · rw [if_pos (Xh hA),inner]
          constructor
          · intro hh;rw [QL (eap.1 hh.2)]
          · intro hh;rw [X8 (fun h'=>hh ⟨hA,eap.2 h'⟩)]
        · rw [if_neg (by rw [YL hA];simp)]
          exact ⟨fun hh=>absurd hh.1 hA,fun _=>rfl⟩)
      (fun hA=>by
        have hkinds:=ZkD c h (fun a ha=>by
          obtain ⟨k,hk⟩:=List.mem_iff_getElem?.1 ha
          exact (hA k a hk).1.kind)
        have g1:atI (ZdF (Z4.JB c)) (1:Int)=some (((Z4.JB c).countP (fun a=>decide (Yi.Kind a=((1:Nat):Int))):Nat):Int):=Qd (by omega) (ZbL _ (by omega))
        have g2:atI (ZdF (Z4.JB c)) (2:Int)=some (((Z4.JB c).countP (fun a=>decide (Yi.Kind a=((2:Nat):Int))):Nat):Int):=Qd (by omega) (ZbL _ (by omega))
        have g3:atI (ZdF (Z4.JB c)) (3:Int)=some (((Z4.JB c).countP (fun a=>decide (Yi.Kind a=((3:Nat):Int))):Nat):Int):=Qd (by omega) (ZbL _ (by omega))
        have c1:=ZkY c 1
        have c2:=ZkY c 2
        have c3:=ZkY c 3
        simp only [Zc2,Int.lt_irrefl,if_false,hkinds,Option.bind_some,g1,g2,g3]
        generalize (Z4.JB c).countP (fun a=>decide (Yi.Kind a=((1:Nat):Int)))=n1 at c1 ⊢
        generalize (Z4.JB c).countP (fun a=>decide (Yi.Kind a=((2:Nat):Int)))=n2 at c2 ⊢
        generalize (Z4.JB c).countP (fun a=>decide (Yi.Kind a=((3:Nat):Int)))=n3 at c3 ⊢
        by_cases k1:Z4.Kind c=1
        · rw [if_pos k1]
          exact ZjR c h hp k1
        rw [if_neg k1]
        have hgoal:∀ (b:Bool),(b=true↔ZeB c)→(some (.inr b):Option ((Int×Unit) ⊕ Bool))=some (.inr (tr (ZeB c))):=fun b hb=>by rw [ZnC hb]
        have c1':ZnI c 1↔0<n1:=c1.symm
        have c2':ZnI c 2↔0<n2:=c2.symm
        have c3':ZnI c 3↔0<n3:=c3.symm
        have hKO:ZeB c↔(Z4.Kind c=2∧Zkz (Z4.YV c)=1∧(Z4.Truth c).length=0∧¬0<n1∧(0<n2↔¬0<n3))∨(Z4.Kind c=3∧Zkz (Z4.YV c)=1∧(Z4.Truth c).length=0∧0<n1∧0<n2∧¬0<n3):=by
          unfold ZeB
          rw [c1',c2',c3']
          constructor
          · rintro (hh | hh | hh)
            · exact absurd hh.1 k1
            · exact .inl hh
            · exact .inr hh
          · rintro (hh | hh)
            · exact .inr (.inl hh)
            · exact .inr (.inr hh)
        by_cases k2:Z4.Kind c=2
        · rw [if_pos k2]
          split
          · split
            · split
              · rename_i a b d
                refine hgoal _ ?_
                rw [hKO]
                simp only [beq_iff_eq,decide_eq_decide] at d
                constructor
                · intro hh;cases hh
                · intro hh;omega
              · rename_i a b d
                refine hgoal _ ?_
                rw [hKO,decide_eq_true_eq]
                simp only [beq_iff_eq,decide_eq_decide] at d
                omega
            · refine hgoal _ ?_
              rw [hKO]
              constructor
              · intro hh;cases hh
              · intro hh;omega
          · refine hgoal _ ?_
            rw [hKO]
            constructor
            · intro hh;cases hh
            · intro hh;omega
        rw [if_neg k2]
        repeat' split
        all_goals
          refine hgoal _ ?_
          rw [hKO]
          first
            | (rw [decide_eq_true_eq];omega)
            | (constructor
               · intro hh;cases hh
               · intro hh;omega))]
    congr 1
    by_cases hA:Zff (Z4.JB c) (fun k a=>Zi8 c a∧Apart (Z4.JB c) k a)
    · rw [QL hA];exact Vd ⟨fun x=>⟨hA,x⟩,fun x=>x.2⟩
    · rw [X8 hA,YL (fun x=>hA x.1)]
  · unfold Zid
    constructor
    · rintro ⟨a,b,c1,d,e,f⟩
      exact ⟨a,hp,⟨by omega,e⟩,c1,d,f⟩
    · rintro ⟨a,b,⟨c1,d⟩,e,f,g⟩
      exact ⟨a,by omega,e,f,d,g⟩
end Go.Proofs.YtdabmnfkcnkkbaaGreatDoor
/-
  Plain laws: libraries; names of a design.
-/
namespace Go.Proofs.YtdabmnfkcnkkbaaGreatDoor
set_option linter.unusedVariables false
set_option linter.unusedSimpArgs false
open Go Go.Sx
theorem ZpF {α:Type} {l:List α} {k:Nat} {s:α}:s ∉ l.take k↔∀ (j:Nat) (q:α),j<k→l[j]?=some q→q≠s:=by
  constructor
  · intro h j q hj hq e
    refine h (List.mem_iff_getElem?.2 ⟨j,?_⟩)
    rw [List.getElem?_take,if_pos hj,hq,e]
  · intro h hm
    obtain ⟨j,hj⟩:=List.mem_iff_getElem?.1 hm
    rw [List.getElem?_take] at hj
    split at hj
    · rename_i hjk;exact h j s hjk hj rfl
    · cases hj
theorem Zn4 {α:Type} (f:α→List UInt8) (l:List α):QW (l.map f) l.length↔Zff l (fun k x=>JA (f x)=true∧∀ (j:Nat) (q:α),j<k→l[j]?=some q→f q≠f x):=by
  constructor
  · intro h k x hx
    have hk:=(List.getElem?_eq_some_iff.1 hx).1
    obtain ⟨h1,h2⟩:=h k (f x) hk (by simp [hx])
    refine ⟨h1,fun j q hj hq=>ZpF.1 h2 j (f q) hj (by simp [hq])⟩
  · intro h j s hj hs
    simp only [List.getElem?_map,Option.map_eq_some_iff] at hs
    obtain ⟨x,hx,rfl⟩:=hs
    obtain ⟨h1,h2⟩:=h j x hx
    refine ⟨h1,ZpF.2 (fun i q hi hq=>?_)⟩
    simp only [List.getElem?_map,Option.map_eq_some_iff] at hq
    obtain ⟨y,hy,rfl⟩:=hq
    exact h2 i y hi hy
def Zfs (l:List Z4):List (List UInt8):=l.map Z4.Name
def Zox (a:Z7):Prop:=(Z7.Cells a).length≤8∧(∀ c∈Z7.Cells a,Zid c)∧QW (Zfs (Z7.Cells a)) (Z7.Cells a).length
theorem Zmw {a:Z7} (h:sm Y9 a):sm (.sl XZ) (Z7.Cells a):=h.1
theorem Zc8 {α:Type} {l:List α} {P:α→Prop}:Zff l (fun _ x=>P x)↔∀ x∈l,P x:=by
  constructor
  · intro h x hx
    obtain ⟨k,hk⟩:=List.mem_iff_getElem?.1 hx
    exact h k x hk
  · intro h k x hk
    exact h x (List.mem_of_getElem? hk)
theorem ZiY {P Q:Prop}:sel P (tr Q) false=tr (P∧Q):=by
  by_cases h:P
  · rw [QL h];exact Vd ⟨fun q=>⟨h,q⟩,fun q=>q.2⟩
  · rw [X8 h,YL (fun q=>h q.1)]
theorem Zjj (a:Z7) (h:sm Y9 a):Zdd a=some (tr (Zox a)):=by
  have hc:=Zmw h
  have hs:=Z8 hc
  unfold Zdd
  have:=ZgX (l:=Z7.Cells a) (ρ:=Bool) (fun k=>((Zfs (Z7.Cells a)).take k,(k:Int),())) (fun _ c=>Zid c) (step:=fun v=>Q0 a v.1 v.2.1) (bad:=false) (good:=tr ((Z7.Cells a).length≤8∧QW (Zfs (Z7.Cells a)) (Z7.Cells a).length))
    (fun k c hx hk _=>by
      have hn:(Zfs (Z7.Cells a))[k]?=some (Z4.Name c):=by simp [Zfs,hx]
      simp only [Q0,show (k:Int)<((Z7.Cells a).length:Int) from by omega,if_true,Yd,hx,Option.bind_some,Zma c (Jp hc hx)]
      rw [Z5 (by simp only [List.length_take,List.length_singleton,Zfs,List.length_map];omega),Y7 hn,Vm (by omega)]
      constructor
      · intro hh;rw [if_pos (Xh hh)]
      · intro hh;rw [if_neg (by rw [YL hh];simp)])
    (fun hA=>by
      have e0:(Zfs (Z7.Cells a)).take (Z7.Cells a).length=Zfs (Z7.Cells a):=by rw [show (Z7.Cells a).length=(Zfs (Z7.Cells a)).length by simp [Zfs],List.take_length]
      have hlen:(Zfs (Z7.Cells a)).length=(Z7.Cells a).length:=by simp [Zfs]
      simp only [Q0,Int.lt_irrefl,if_false,e0]
      by_cases h8:(Z7.Cells a).length≤8
      · rw [if_pos (by omega),JW _ (by rw [hlen];omega),Option.bind_some,hlen]
        congr 2
        exact Vd ⟨fun q=>⟨h8,q⟩,fun q=>q.2⟩
      · rw [if_neg (by omega),YL (fun q=>h8 q.1)])
  refine (show Yc (fun v=>Q0 a v.1 v.2.1) (([]:List (List UInt8)),(0:Int),())=_ from this).trans ?_
  rw [ZiY]
  congr 1
  refine Vd ?_
  rw [Zc8]
  exact ⟨fun q=>⟨q.2.1,q.1,q.2.2⟩,fun q=>⟨q.2.1,q.1,q.2.2⟩⟩
theorem Zlb {α ρ:Type} {f:α→List UInt8} {l:List α} {x:α} {k:Nat} (hk:k≤1048576) (hkl:k≤l.length) {step:Int×Unit→Option ((Int×Unit) ⊕ ρ)} {bad good:ρ}
    (hs:∀ (j:Nat) (y:α),j<k→l[j]?=some y→step ((j:Int),())=some (if f y=f x then .inr bad else .inl (IntKind.i64.wrap ((j:Int)+1),())))
    (hx:step ((k:Int),())=some (.inr good)):Yc step ((0:Int),())=some (sel (∀ (j:Nat) (q:α),j<k→l[j]?=some q→f q≠f x) good bad):=by
  rw [Zly k (by omega) (fun j=>∀ q,l[j]?=some q→f q≠f x) (bad:=bad) (good:=good) (fun j hj=>by
    have hjl:l[j]?=some l[j]:=List.getElem?_eq_getElem (by omega)
    rw [hs j _ hj hjl]
    constructor
    · intro hh;rw [if_neg (hh _ hjl)]
    · intro hh
      rw [if_pos]
      apply Classical.byContradiction
      intro hne
      refine hh (fun q hq=>?_)
      rw [hjl] at hq;injection hq with hq;subst hq;exact hne) (fun _=>hx)]
  congr 1
  have e:(∀ j,j<k→∀ q,l[j]?=some q→f q≠f x)↔(∀ (j:Nat) (q:α),j<k→l[j]?=some q→f q≠f x):=⟨fun h j q hj hq=>h j hj q hq,fun h j hj q hq=>h j q hj hq⟩
  rw [propext e]
theorem ZjS (a:Z7) (h:sm Y9 a):Zdn a=some (tr (Zox a)):=by
  have hc:=Zmw h
  have hs:=Z8 hc
  unfold Zdn
  rw [Jk (XK hc) (fun k c=>Zid c∧∀ (j:Nat) (q:Z4),j<k→(Z7.Cells a)[j]?=some q→Z4.Name q≠Z4.Name c) (bad:=false) (good:=tr ((Z7.Cells a).length≤8))
    (fun k c hx hk _=>by
      simp only [Zbh,show (k:Int)<((Z7.Cells a).length:Int) from by omega,if_true,Yd,hx,Option.bind_some,Zmx c (Jp hc hx)]
      by_cases hC:Zid c
      · rw [if_pos (Xh hC),Zlb (f:=Z4.Name) (l:=Z7.Cells a) (x:=c) (k:=k) (by omega) (by omega) (bad:=.inr false) (good:=.inl (IntKind.i64.wrap ((k:Int)+1),()))
          (fun j y hj hy=>by
            simp only [Zbg,show (j:Int)<(k:Int) from by omega,if_true,Yd,hy,Option.bind_some]
            split<;>rfl)
          (by simp only [Zbg,Int.lt_irrefl,if_false])]
        constructor
        · intro hh;rw [QL hh.2]
        · intro hh;rw [X8 (fun q=>hh ⟨hC,q⟩)]
      · rw [if_neg (by rw [YL hC];simp)]
        exact ⟨fun hh=>absurd hh.1 hC,fun _=>rfl⟩)
    (fun _=>by
      simp only [Zbh,Int.lt_irrefl,if_false]
      congr 2
      exact (ZnC (by rw [decide_eq_true_eq];omega)).symm)]
  rw [ZiY]
  congr 1
  refine Vd ?_
  unfold Zox
  rw [Zfs,Zn4,←Zc8]
  constructor
  · rintro ⟨q,q8⟩
    exact ⟨q8,fun k x hx=>(q k x hx).1,fun k x hx=>⟨(q k x hx).1.1,(q k x hx).2⟩⟩
  · rintro ⟨q8,q1,q2⟩
    exact ⟨fun k x hx=>⟨q1 k x hx,(q2 k x hx).2⟩,q8⟩
theorem ZdG (l:List (List UInt8)) (hl:l.length≤1048576) (hsm:∀ s∈l,s.length≤4611686018427387904):Za4 l=some (tr (QW l l.length)):=by
  unfold Za4
  rw [Jk (show Len l by show l.length≤4611686018427387904;omega) (fun k s=>JA s=true∧∀ (j:Nat) (q:List UInt8),j<k→l[j]?=some q→id q≠id s) (bad:=false) (good:=true)
    (fun k s hx hk _=>by
      simp only [ZbV,show (k:Int)<(l.length:Int) from by omega,if_true,Yd,hx,Option.bind_some,ZcC s (hsm s (List.mem_of_getElem? hx))]
      by_cases hC:JA s=true
      · rw [if_pos hC,Zlb (f:=id) (l:=l) (x:=s) (k:=k) (by omega) (by omega) (bad:=.inr false) (good:=.inl (IntKind.i64.wrap ((k:Int)+1),()))
          (fun j y hj hy=>by
            simp only [ZbU,show (j:Int)<(k:Int) from by omega,if_true,Yd,hy,Option.bind_some,id]
            split<;>rfl)
          (by simp only [ZbU,Int.lt_irrefl,if_false])]
        constructor
        · intro hh;rw [QL hh.2]
        · intro hh;rw [X8 (fun q=>hh ⟨hC,q⟩)]
      · rw [if_neg hC]
        exact ⟨fun hh=>absurd hh.1 hC,fun _=>rfl⟩)
    (fun _=>by simp only [ZbV,Int.lt_irrefl,if_false]),ZlP]
  congr 1
  refine Vd ?_
  have:=Zn4 id l
  rw [List.map_id] at this
  exact this.symm
def Jy (d:ZT):List (List UInt8):=(ZT.Instances d).map ZW.Name
def Zbf (d:ZT):List (List UInt8):=(ZT.Yo d).map Ym.Name
def Zif (d:ZT):Prop:=(ZT.Instances d).length≤14∧(ZT.Yh d).length≤30∧(ZT.Yo d).length≤8∧QW (Jy d) (Jy d).length∧QW (ZT.Yh d) (ZT.Yh d).length∧QW (Zbf d) (Zbf d).length
theorem gather {α ρ:Type} {l:List α} (hl:l.length≤1048576) (f:α→List UInt8) {step:List (List UInt8)×Int×Unit→Option ((List (List UInt8)×Int×Unit) ⊕ ρ)} {good:ρ}
    (hs:∀ (k:Nat) (x:α) (o:List (List UInt8)),l[k]?=some x→(k:Int)<(l.length:Int)→o.length=k→step (o,(k:Int),())=Yf ((o.length+[f x].length)*16≤140737488355328) (some (.inl (o++[f x],IntKind.i64.wrap ((k:Int)+1),()))))
    (hx:step (l.map f,(l.length:Int),())=some (.inr good)):Yc step (([]:List (List UInt8)),(0:Int),())=some good:=by
  refine (show Yc step (([]:List (List UInt8)),(0:Int),())=some good from Y3 (l:=l) (fun k=>((l.map f).take k,(k:Int),())) (fun k x hx hk=>?_) ?_)
  · have hn:(l.map f)[k]?=some (f x):=by simp [hx]
    have hlen:((l.map f).take k).length=k:=by rw [List.length_take,List.length_map];omega
    rw [hs k x _ hx (by omega) hlen,Z5 (by rw [hlen];simp;omega),Y7 hn,Vm (by omega)]
  · have e0:(l.map f).take l.length=l.map f:=by rw [show l.length=(l.map f).length by simp,List.take_length]
    simp only [e0]
    exact hx
end Go.Proofs.YtdabmnfkcnkkbaaGreatDoor
