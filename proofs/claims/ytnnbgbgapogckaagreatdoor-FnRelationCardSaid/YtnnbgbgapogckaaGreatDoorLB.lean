/-
  Plain laws: clocks, their waves, roots, periods; which clocks are valid.
-/
import Derived.Test.YtnnbgbgapogckaaGreatDoorLA
namespace Go.Proofs.YtnnbgbgapogckaaGreatDoor
set_option linter.unusedVariables false
set_option linter.unusedSimpArgs false
open Go Go.Sx
structure Wv where
 period:Int
 rise:Int
 fall:Int
def Zj9 (c:Zb) (w:Wv):Wv :=
 let w1:Wv:=if 1<Zb.Divide c then ⟨Wq (Zb.Divide c*w.period),w.rise,Wq (w.rise+Wq (Wq ((Zb.Divide c).tdiv 2)*w.period))⟩ else w
 if Zb.ZaU c=true then ⟨w1.period,w1.fall,w1.rise⟩ else w1
def Zir (l:List Zb):Nat→Int→Wv
 | 0,_=>⟨0,0,0⟩
 | n+1,k=>match l[k.toNat]? with
  | none=>⟨0,0,0⟩
  | some c=>if Zb.Source c<0 then ⟨Zb.Qo c,Zb.QX c,Zb.Vm c⟩ else Zj9 c (Zir l n (Zb.Source c))
def ZQ (l:List Zb) (k:Int):Wv:=Zir l (k.toNat+1) k
def ZfS (l:List Zb) (m:Int):Prop:=∀ (j:Nat) (c:Zb),(j:Int)<m→l[j]?=some c→Zb.Source c<(j:Int)
theorem Zcr (l:List Zb):∀ (n:Nat) (k:Int),0≤k→k<n→ZfS l (k+1)→Zir l n k=ZQ l k
 | 0,k,h0,h1,_=>by omega
 | n+1,k,h0,h1,hs=>by
  unfold ZQ
  simp only [Zir]
  cases hc:l[k.toNat]? with
  | none=>rfl
  | some c =>
   simp only
   split
   ·rfl
   ·rename_i hsrc
    have hlt:=hs k.toNat c (by omega) hc
    have hs':ZfS l (Zb.Source c+1):=fun j c' hj hc'=>hs j c' (by omega) hc'
    have e1:=Zcr l n (Zb.Source c) (by omega) (by omega) hs'
    rw [e1]
    have:∀ m:Nat,Zb.Source c<m→m<n+1→Zir l m (Zb.Source c)=ZQ l (Zb.Source c):=fun m hm hmn=>Zcr l m (Zb.Source c) (by omega) hm hs'
    by_cases hk:k.toNat<n+1∧Zb.Source c<(k.toNat:Int)
    ·rw [this k.toNat hk.2 hk.1]
    ·omega
 termination_by n=>n
theorem Zhd (l:List Zb) (k:Int) (h0:0≤k) (c:Zb) (hc:l[k.toNat]?=some c) (hs:ZfS l (k+1)) :
  ZQ l k=if Zb.Source c<0 then ⟨Zb.Qo c,Zb.QX c,Zb.Vm c⟩ else Zj9 c (ZQ l (Zb.Source c)):=by
 unfold ZQ
 rw [Zir,hc]
 simp only
 split
 ·rfl
 ·rename_i hsrc
  have hlt:=hs k.toNat c (by omega) hc
  rw [Zcr l k.toNat (Zb.Source c) (by omega) hlt (fun j c' hj hc'=>hs j c' (by omega) hc')]
  rfl
def wvI (w:Wv):Yo:=(w.period,(w.rise,w.fall,()),())
def wvS (w:Wv):Zx:=(w.period,w.rise,w.fall,())
def ZcP (l:List Zb) (k:Int):Prop:=0≤k∧k<l.length∧ZfS l (k+1)
theorem VW (l:List Zb):∀ (n:Nat) (k:Int),ZcP l k→(∀ r,X3 n l k=some r→r=wvI (ZQ l k))∧(k<n→X3 n l k=some (wvI (ZQ l k)))
 | 0,k,hp=>⟨fun r h=>by simp [X3] at h,fun h=>by have:=hp.1;omega⟩
 | n+1,k,hp=>by
  obtain ⟨h0,h1,h2⟩:=hp
  obtain ⟨c,hc,hc'⟩:=Zbn h0 h1
  have hw:=Zhd l k h0 c hc' h2
  simp only [X3,Qb,hc,Bq]
  split
  ·rename_i hs
   rw [if_pos hs] at hw
   rw [hw]
   exact ⟨fun r h=>by injection h with h;exact h.symm,fun _=>rfl⟩
  ·rename_i hs
   rw [if_neg hs] at hw
   have hlt:=h2 k.toNat c (by omega) hc'
   have ih:=VW l n (Zb.Source c) ⟨by omega,by omega,fun j d hj hd=>h2 j d (by omega) hd⟩
   have fin:∀ o:Option Yo,(∀ r,o=some r→r=wvI (ZQ l (Zb.Source c)))→∀ F:Yo→Option Yo,F (wvI (ZQ l (Zb.Source c)))=some (wvI (ZQ l k))→(∀ r,o.bind F=some r→r=wvI (ZQ l k))∧(o≠none→o.bind F=some (wvI (ZQ l k))):=by
    intro o ho F hF
    cases o with
    | none=>exact ⟨fun r h=>(by cases h),fun h=>absurd rfl h⟩
    | some x =>
     have:=ho x rfl
     subst this
     rw [Bq,hF]
     exact ⟨fun r h=>by injection h with h;exact h.symm,fun _=>rfl⟩
   refine And.imp_right (fun h2 hk=>h2 (by rw [ih.2 (by omega)];simp)) (fin _ ih.1 _ ?_)
   rw [hw]
   simp only [Zj9,wvI]
   split<;>split<;>simp [*]
theorem Qg {l:List Zb} {k:Int} (hp:ZcP l k):X0 l k=some (wvI (ZQ l k)) :=
 Zfz ⟨k.toNat+1,(VW l _ k hp).2 (by have:=hp.1;omega)⟩ (fun n r h=>(VW l n k hp).1 r h)
theorem Jf (l:List Zb):∀ (n:Nat) (k:Int),ZcP l k→(∀ r,QD n l k=some r→r=wvS (ZQ l k))∧(k<n→QD n l k=some (wvS (ZQ l k)))
 | 0,k,hp=>⟨fun r h=>by simp [QD] at h,fun h=>by have:=hp.1;omega⟩
 | n+1,k,hp=>by
  obtain ⟨h0,h1,h2⟩:=hp
  obtain ⟨c,hc,hc'⟩:=Zbn h0 h1
  have hw:=Zhd l k h0 c hc' h2
  simp only [QD,QC,hc,Bq]
  split
  ·rename_i hs
   rw [if_pos hs] at hw
   rw [hw]
   exact ⟨fun r h=>by injection h with h;exact h.symm,fun _=>rfl⟩
  ·rename_i hs
   rw [if_neg hs] at hw
   have hlt:=h2 k.toNat c (by omega) hc'
   have ih:=Jf l n (Zb.Source c) ⟨by omega,by omega,fun j d hj hd=>h2 j d (by omega) hd⟩
   have fin:∀ o:Option Zx,(∀ r,o=some r→r=wvS (ZQ l (Zb.Source c)))→∀ F:Zx→Option Zx,F (wvS (ZQ l (Zb.Source c)))=some (wvS (ZQ l k))→(∀ r,o.bind F=some r→r=wvS (ZQ l k))∧(o≠none→o.bind F=some (wvS (ZQ l k))):=by
    intro o ho F hF
    cases o with
    | none=>exact ⟨fun r h=>(by cases h),fun h=>absurd rfl h⟩
    | some x =>
     have:=ho x rfl
     subst this
     rw [Bq,hF]
     exact ⟨fun r h=>by injection h with h;exact h.symm,fun _=>rfl⟩
   refine And.imp_right (fun h2 hk=>h2 (by rw [ih.2 (by omega)];simp)) (fin _ ih.1 _ ?_)
   rw [hw]
   simp only [Zj9,wvS]
   split<;>split<;>simp [*,Int.mul_comm]
theorem XB {l:List Zb} {k:Int} (hp:ZcP l k):XL l k=some (wvS (ZQ l k)) :=
 Zfz ⟨k.toNat+1,(Jf l _ k hp).2 (by have:=hp.1;omega)⟩ (fun n r h=>(Jf l n k hp).1 r h)
def Zcl (c:Zb):Bool:=decide (0≤Zb.Place c)&&decide (0≤Zb.Yg c)&&decide (Zb.Yg c≤Zb.XV c)&&decide (Zb.XV c≤100000)&&within (Zb.ZR c) 0 100000
def ZbI (c:Zb):Bool:=within (Zb.Qo c) 2 100000&&within (Zb.QX c) 0 (Wq (Zb.Qo c-1))&&within (Zb.Vm c) 0 (Wq (Zb.Qo c-1))&&decide (Zb.QX c≠Zb.Vm c)&&decide (Zb.Divide c=1)&&!Zb.ZaU c
def Zku (l:List Zb) (k:Int) (c:Zb):Bool:=within (Zb.Source c) 0 (Wq (k-1))&&within (Zb.Divide c) 1 8&&decide (Zb.Qo c=0)&&decide (Zb.QX c=0)&&decide (Zb.Vm c=0)&&decide ((ZQ l k).period≤100000)
def JN (l:List Zb) (k:Int) (c:Zb):Bool:=Zcl c&&(if Zb.Source c=-1 then ZbI c else Zku l k c)
theorem Zcc (c:Zb):Yl c=some (ZbI c):=by
 unfold Yl
 simp only [VP,Bq]
 repeat' split
 all_goals simp [ZbI, *]
theorem ZbT (c:Zb):XM c=some (ZbI c):=by
 unfold XM
 simp only [Vx,Bq]
 repeat' split
 all_goals simp [ZbI, *]
theorem ZkP (c:Zb):Zcl c=(decide (0≤Zb.Place c)&&within (Zb.Yg c) 0 100000&&within (Zb.XV c) (Zb.Yg c) 100000&&within (Zb.ZR c) 0 100000):=by
 rw [Bool.eq_iff_iff]
 simp only [Zcl,within,Bool.and_eq_true,decide_eq_true_eq]
 omega
theorem ZcU (c:Zb) (hl:(Zb.Name c).length≤4611686018427387904):QV c=some (Zad (Zb.Name c)&&Zcl c):=by
 unfold QV
 rw [ZdJ _ hl,ZkP]
 simp only [Vx,Bq]
 repeat' split
 all_goals simp [*]
def Ze2 (l:List Zb) (m:Int):Prop:=∀ (j:Nat) (c:Zb),(j:Int)<m→l[j]?=some c→JN l j c=true
theorem ZgH {l:List Zb} {k:Nat} {c:Zb} (h:JN l k c=true) (hk:(k:Int)≤1000000):Zb.Source c=-1∨0≤Zb.Source c∧Zb.Source c<k:=by
 unfold JN at h
 simp only [Bool.and_eq_true] at h
 split at h
 ·exact .inl (by assumption)
 ·have h2:=h.2
  unfold Zku at h2
  simp only [within,Bool.and_eq_true,decide_eq_true_eq] at h2
  rw [XD (by omega) (by omega)] at h2
  omega
theorem Ze2.src {l:List Zb} {m:Int} (h:Ze2 l m) (hm:m≤1000000):ZfS l m:=by
 intro j c hj hc
 have:=ZgH (h j c hj hc) (by omega)
 omega
theorem ZeF {l:List Zb} {k:Int} {c:Zb} (h0:0≤k) (h1:k<l.length) (hk:k≤1000) (h:Ze2 l k) (hc:l[k.toNat]?=some c) (hs:Zb.Source c<k):ZcP l k:=by
 refine ⟨h0,h1,fun j d hj hd=>?_⟩
 by_cases hjk:(j:Int)<k
 ·exact h.src (by omega) j d hjk hd
 ·have:j=k.toNat:=by omega
  subst this
  rw [hc] at hd;injection hd with hd;subst hd
  omega
theorem ZeY {s k:Int} (hk0:0≤k) (hk:k≤1000) (h:within s 0 (Wq (k-1))=true):0≤s∧s<k:=by
 rw [within_iff,XD (by omega) (by omega)] at h
 omega
theorem ZhZ (l:List Zb) (k:Int) (c:Zb):JN l k c=(decide (0≤Zb.Place c)&&decide (0≤Zb.Yg c)&&decide (Zb.Yg c≤Zb.XV c)&&decide (Zb.XV c≤100000)&&within (Zb.ZR c) 0 100000 &&
  (if Zb.Source c=-1 then ZbI c else within (Zb.Source c) 0 (Wq (k-1))&&within (Zb.Divide c) 1 8&&decide (Zb.Qo c=0)&&decide (Zb.QX c=0)&&decide (Zb.Vm c=0)&&decide ((ZQ l k).period≤100000))):=rfl
theorem Zdp {l:List Zb} {k:Int} {c:Zb} (h0:0≤k) (h1:k<l.length) (hk:k≤1000) (h:Ze2 l k) (hc:l[k.toNat]?=some c):Va l k=some (JN l k c):=by
 have hw:within (Zb.Source c) 0 (Wq (k-1))=true→X0 l k=some (wvI (ZQ l k)):=fun hh=>Qg (ZeF h0 h1 hk h hc (ZeY h0 hk hh).2)
 unfold Va
 rw [Zkf h0 hc,ZhZ]
 clear h0 h1 hk h hc
 simp only [VP,Bq,Zcc]
 generalize ZbI c=pr
 generalize Zb.Place c=v1 at *
 generalize Zb.Yg c=v2 at *
 generalize Zb.XV c=v3 at *
 generalize Zb.ZR c=v4 at *
 generalize Zb.Source c=v5 at *
 generalize Zb.Divide c=v6 at *
 generalize Zb.Qo c=v7 at *
 generalize Zb.QX c=v8 at *
 generalize Zb.Vm c=v9 at *
 by_cases a1:v1<0
 ·have:¬0≤v1:=by omega
  simp [a1,this]
 by_cases a2:v2<0
 ·have:¬0≤v2:=by omega
  simp [a1,a2,this]
 by_cases a3:v3<v2
 ·have:¬v2≤v3:=by omega
  simp [a1,a2,a3,this]
 by_cases a4:100000<v3
 ·have:¬v3≤100000:=by omega
  simp [a1,a2,a3,a4,this]
 rw [if_neg a1,if_neg a2,if_neg a3,if_neg a4,decide_eq_true (show 0≤v1 by omega),decide_eq_true (show 0≤v2 by omega),decide_eq_true (show v2≤v3 by omega),decide_eq_true (show v3≤100000 by omega)]
 cases within v4 0 100000
 ·simp
 simp only [if_true,Bool.true_and]
 by_cases a5:v5=-1
 ·rw [if_pos a5,if_pos a5]
 rw [if_neg a5,if_neg a5]
 cases hw5:within v5 0 (Wq (k-1))
 ·simp
 rw [hw hw5]
 simp only [if_true,Bool.true_and]
 cases within v6 1 8
 ·simp
 by_cases a7:v7=0
 ·by_cases a8:v8=0
  ·by_cases a9:v9=0
   ·simp [a7,a8,a9,wvI]
   ·simp [a7,a8,a9]
  ·simp [a7,a8]
 ·simp [a7]
def Zaa (l:List Zb):List (List UInt8):=l.map Zb.Name
def VZ (l:List Zb):Prop:=l.length≤6∧Ze2 l l.length∧Zc6 (Zaa l) l.length
theorem ZcM (l:List Zb):QN l=some (tr (VZ l)):=by
 unfold QN
 split
 ·rename_i h
  rw [Zag]
  intro hh
  have:=hh.1
  omega
 ·rename_i h6
  refine XC l.length (fun k v=>v.2.1=(k:Int)∧v.1=Zaa (l.take k)∧Ze2 l k) _ ⟨rfl,rfl,fun j s hj=>by omega⟩ ?_ ?_
  ·rintro k ⟨ns,i,⟨⟩⟩ hk ⟨hi,hns,hS⟩
   simp only at hi hns
   subst hi
   have hx:l[k]?=some l[k]:=List.getElem?_eq_getElem hk
   generalize l[k]=x at hx
   simp only [Y5,VU,hx,Bq,show (k:Int)<(l.length:Int) from by omega,if_true,XD (show (-9223372036854775808:Int)≤(k:Int)+1 by omega) (by omega)]
   rw [Zdp (by omega) (by omega) (by omega) hS (by simpa using hx),Bq]
   split
   ·rename_i hok
    have hlen:ns.length=k:=by rw [hns];simp [Zaa];omega
    rw [ZB (by simp only [List.length_singleton];omega)]
    refine .inl ⟨_,rfl,by simp,by rw [hns,JI hx];simp [Zaa],fun j d hj hd=>?_⟩
    by_cases e:(j:Int)<k
    ·exact hS j d e hd
    ·have:j=k:=by omega
     subst this
     rw [hx] at hd;injection hd with hd;subst hd
     exact hok
   ·rename_i hok
    right
    rw [Zag]
    intro hh
    exact hok (hh.2.1 k x (by omega) hx)
  ·rintro ⟨ns,i,⟨⟩⟩ ⟨hi,hns,hS⟩
   simp only at hi hns
   subst hi
   rw [List.take_length] at hns
   have hlen:(Zaa l).length=l.length:=by simp [Zaa]
   subst hns
   simp only [Y5,Int.lt_irrefl,if_false]
   rw [ZcN _ (by omega),Bq,hlen]
   congr 2
   by_cases hN:Zc6 (Zaa l) l.length
   ·rw [ZcF hN,ZcF ⟨by omega,hS,hN⟩]
   ·rw [Zag hN,Zag (fun hh=>hN hh.2.2)]
/-
  Plain laws: roots and periods of clocks.
-/
def Zih (l:List Zb):Nat→Int→Int
 | 0,k=>k
 | n+1,k=>match l[k.toNat]? with
  | none=>k
  | some c=>if Zb.Source c<0 then k else Zih l n (Zb.Source c)
def root (l:List Zb) (k:Int):Int:=Zih l (k.toNat+1) k
theorem ZeS (l:List Zb):∀ (n m:Nat) (k:Int),0≤k→k<n→k<m→ZfS l (k+1)→Zih l n k=Zih l m k
 | 0,m,k,h0,h1,_,_=>by omega
 | n+1,0,k,h0,_,h1,_=>by omega
 | n+1,m+1,k,h0,h1,h2,hs=>by
  simp only [Zih]
  cases hc:l[k.toNat]? with
  | none=>rfl
  | some c =>
   simp only
   split
   ·rfl
   ·have hlt:=hs k.toNat c (by omega) hc
    exact ZeS l n m (Zb.Source c) (by omega) (by omega) (by omega) (fun j c' hj hc'=>hs j c' (by omega) hc')
theorem ZjK (l:List Zb) (k:Int) (h0:0≤k) (c:Zb) (hc:l[k.toNat]?=some c) (hs:ZfS l (k+1)):root l k=if Zb.Source c<0 then k else root l (Zb.Source c):=by
 unfold root
 rw [Zih,hc]
 simp only
 split
 ·rfl
 ·rename_i hsrc
  have hlt:=hs k.toNat c (by omega) hc
  exact ZeS l _ _ (Zb.Source c) (by omega) (by omega) (by omega) (fun j c' hj hc'=>hs j c' (by omega) hc')
theorem ZaZ {l:List Zb} {k:Int} (hp:ZcP l k):Q7 l k=some (root l k):=by
 unfold Q7
 refine J8 (fun v=>ZcP l v.1∧root l v.1=root l k) (fun v=>v.1.toNat) _ ⟨hp,rfl⟩ ?_
 rintro ⟨v,⟨⟩⟩ ⟨⟨h0,h1,h2⟩,hr⟩
 obtain ⟨c,hc,hc'⟩:=Zbn h0 h1
 have he:=ZjK l v h0 c hc' h2
 simp only at hr
 simp only [QS,hc,Bq]
 split
 ·rename_i hs
  have hlt:=h2 v.toNat c (by omega) hc'
  rw [if_neg (by omega)] at he
  exact .inl ⟨_,rfl,⟨⟨hs,by dsimp only;omega,fun j d hj hd=>h2 j d (by dsimp only at hj;omega) hd⟩,by rw [←hr,he]⟩,by dsimp only;omega⟩
 ·rename_i hs
  rw [if_pos (by omega)] at he
  exact .inr (by rw [←hr,he])
theorem ZaB {l:List Zb} {k:Int} (hp:ZcP l k):QE l k=some (root l k):=by
 unfold QE
 refine J8 (fun v=>ZcP l v.1∧root l v.1=root l k) (fun v=>v.1.toNat) _ ⟨hp,rfl⟩ ?_
 rintro ⟨v,⟨⟩⟩ ⟨⟨h0,h1,h2⟩,hr⟩
 obtain ⟨c,hc,hc'⟩:=Zbn h0 h1
 have he:=ZjK l v h0 c hc' h2
 simp only at hr
 simp only [Qm,hc,Bq]
 split
 ·rename_i hs
  have hlt:=h2 v.toNat c (by omega) hc'
  rw [if_neg (by omega)] at he
  exact .inl ⟨_,rfl,⟨⟨hs,by dsimp only;omega,fun j d hj hd=>h2 j d (by dsimp only at hj;omega) hd⟩,by rw [←hr,he]⟩,by dsimp only;omega⟩
 ·rename_i hs
  rw [if_pos (by omega)] at he
  exact .inr (by rw [←hr,he])
theorem Zhv (a b:Int) (h1:0≤a):Int.gcd b (a.tmod b)=Int.gcd a b:=by
 rw [Int.tmod_eq_emod_of_nonneg h1,Int.gcd_comm,Int.emod_def]
 simp
theorem ZgR {a b:Int} (h1:0≤a) (h2:0≤b):ZaL a b=some (Int.gcd a b:Int):=by
 unfold ZaL
 refine J8 (fun v=>0≤v.1∧0≤v.2.1∧Int.gcd v.1 v.2.1=Int.gcd a b) (fun v=>v.2.1.toNat) _ ⟨h1,h2,rfl⟩ ?_
 rintro ⟨x,y,⟨⟩⟩ ⟨g1,g2,g3⟩
 simp only at g1 g2 g3
 simp only [VO]
 split
 ·rename_i hs
  subst hs
  right
  rw [←g3,Int.gcd_zero_right]
  congr 2;omega
 ·rename_i hs
  rw [ZB hs]
  have b1:=Int.tmod_nonneg y g1
  have b2:=Int.tmod_lt_of_pos x (show 0<y by omega)
  exact .inl ⟨_,rfl,⟨g2,b1,by rw [←g3];exact Zhv x y g1⟩,by dsimp only;omega⟩
theorem Zev {a b:Int} (h1:0≤a) (h2:0≤b):VI a b=some (Int.gcd a b:Int):=by
 unfold VI
 refine J8 (fun v=>0≤v.1∧0≤v.2.1∧Int.gcd v.1 v.2.1=Int.gcd a b) (fun v=>v.2.1.toNat) _ ⟨h1,h2,rfl⟩ ?_
 rintro ⟨x,y,⟨⟩⟩ ⟨g1,g2,g3⟩
 simp only at g1 g2 g3
 simp only [QU]
 split
 ·rename_i hs
  rw [ZB (by omega)]
  have b1:=Int.tmod_nonneg y g1
  have b2:=Int.tmod_lt_of_pos x (show 0<y by omega)
  exact .inl ⟨_,rfl,⟨g2,b1,by rw [←g3];exact Zhv x y g1⟩,by dsimp only;omega⟩
 ·rename_i hs
  have hy:y=0:=by omega
  subst hy
  right
  rw [←g3,Int.gcd_zero_right]
  congr 2;omega
def hyp (x y:Int):Int:=Wq (Wq (x.tdiv (Int.gcd x y))*y)
structure ZfQ (l:List Zb) (a b:Int):Prop where
 wa:ZcP l a
 wb:ZcP l b
 pa:1≤(ZQ l a).period
 pb:1≤(ZQ l b).period
theorem ZfQ.gcd {l:List Zb} {a b:Int} (h:ZfQ l a b):((Int.gcd (ZQ l a).period (ZQ l b).period:Nat):Int)≠0:=by
 have:=h.pa
 have h2:Int.gcd (ZQ l a).period (ZQ l b).period≠0:=by
  intro e
  rw [Int.gcd_eq_zero_iff] at e
  omega
 omega
theorem Za7 {l:List Zb} {a b:Int} (h:ZfQ l a b):Xh l a b=some (hyp (ZQ l a).period (ZQ l b).period):=by
 unfold Xh
 rw [Qg h.wa,Bq,Qg h.wb,Bq]
 have ha:=h.pa;have hb:=h.pb
 simp only [wvI,Yo.period]
 rw [ZgR (by omega) (by omega),Bq,ZB h.gcd]
 rfl
theorem Zaf {l:List Zb} {a b:Int} (h:ZfQ l a b):X7 l a b=some (hyp (ZQ l a).period (ZQ l b).period):=by
 unfold X7
 rw [XB h.wa,Bq,XB h.wb,Bq]
 have ha:=h.pa;have hb:=h.pb
 simp only [wvS,Zx.period]
 rw [Zev (by omega) (by omega),Bq,ZB h.gcd]
 rfl
/-
  Plain laws: the reference's valid clocks; codes; the waves of valid clocks.
-/
def ZbH (l:List Zb):Prop:=∀ c∈l,(Zb.Name c).length≤4611686018427387904
theorem ZaJ {l:List Zb} {k:Nat} {c:Zb} (h:l[k]?=some c):(Zaa l)[k]?=some (Zb.Name c):=by simp [Zaa,h]
theorem Zbe {l:List Zb} {k:Nat} {c:Zb} (hk:k<l.length) (h6:l.length≤6) (hc:l[k]?=some c) (hpre:Ze2 l k) (hpl:Zcl c=true) :
  ZA (fun v=>YE l (k:Int) c v.1) ((0:Int),()) =
   some (if Zb.Name c∈(Zaa l).take k then .inr false else if JN l k c=true then .inl ((k:Int)+1,()) else .inr false):=by
 refine XC k (fun m v=>v.1=(m:Int)∧Zb.Name c ∉ (Zaa l).take m) _ ⟨rfl,by simp⟩ ?_ ?_
 ·rintro m ⟨i,⟨⟩⟩ hm ⟨hi,hn⟩
  simp only at hi
  subst hi
  have hx:l[m]?=some l[m]:=List.getElem?_eq_getElem (by omega)
  generalize l[m]=x at hx
  have hxn:=ZaJ hx
  simp only [YE,VU,hx,Bq,show (m:Int)<(k:Int) from by omega,if_true,XD (show (-9223372036854775808:Int)≤(m:Int)+1 by omega) (by omega)]
  split
  ·rename_i e
   right
   rw [if_pos]
   rw [←e]
   refine List.mem_iff_getElem?.2 ⟨m,?_⟩
   rw [List.getElem?_take,if_pos hm,hxn]
  ·rename_i e
   refine .inl ⟨_,rfl,by simp,?_⟩
   rw [JI hxn]
   simp only [List.mem_append,List.mem_singleton,not_or]
   exact ⟨hn,fun h=>e h.symm⟩
 ·rintro ⟨i,⟨⟩⟩ ⟨hi,hn⟩
  simp only at hi
  subst hi
  have hw:within (Zb.Source c) 0 (Wq ((k:Int)-1))=true→XL l k=some (wvS (ZQ l k)):=fun hh =>
   XB (ZeF (by omega) (by omega) (by omega) hpre (by simpa using hc) (ZeY (by omega) (by omega) hh).2)
  rw [if_neg hn]
  simp only [YE,Int.lt_irrefl,if_false,ZbT,Vx,Bq,XD (show (-9223372036854775808:Int)≤(k:Int)+1 by omega) (by omega)]
  have e:JN l k c=(Zcl c&&_):=rfl
  rw [e,hpl,Bool.true_and]
  by_cases a1:Zb.Source c=-1
  ·rw [if_pos a1,if_pos a1]
   cases ZbI c<;>simp
  rw [if_neg a1,if_neg a1]
  unfold Zku
  cases hw5:within (Zb.Source c) 0 (Wq ((k:Int)-1))
  ·simp
  rw [hw hw5]
  simp only [if_true,Bool.true_and,Bq]
  cases within (Zb.Divide c) 1 8
  ·simp
  by_cases a7:Zb.Qo c=0
  ·by_cases a8:Zb.QX c=0
   ·by_cases a9:Zb.Vm c=0
    ·by_cases a10:100000<(ZQ l k).period
     ·have:¬(ZQ l k).period≤100000:=by omega
      simp [a7,a8,a9,wvS,a10,this]
     ·have:(ZQ l k).period≤100000:=by omega
      simp [a7,a8,a9,wvS,a10,this]
    ·simp [a7,a8,a9]
   ·simp [a7,a8]
  ·simp [a7]
theorem Q5 (l:List Zb) (hn:ZbH l) (hl:l.length≤4611686018427387904):Y1 l=some (tr (VZ l)):=by
 unfold Y1
 refine XC l.length (fun k v=>v.1=(k:Int)∧(0<k→l.length≤6)∧Ze2 l k∧Zc6 (Zaa l) k) _ ⟨rfl,by omega,fun j s hj=>by omega,fun j s hj=>by omega⟩ ?_ ?_
 ·rintro k ⟨i,⟨⟩⟩ hk ⟨hi,_,hS,hN⟩
  simp only at hi
  subst hi
  have hx:l[k]?=some l[k]:=List.getElem?_eq_getElem hk
  generalize l[k]=x at hx
  simp only [Xa,VU,hx,Bq,show (k:Int)<(l.length:Int) from by omega,if_true]
  split
  ·rename_i h6
   have h6':l.length≤6:=by omega
   rw [ZcU _ (hn x (List.mem_of_getElem? hx)),Bq]
   split
   ·rename_i hp
    simp only [Bool.and_eq_true] at hp
    rw [Zbe hk h6' hx hS hp.2]
    split
    ·rename_i hm
     right
     rw [Zag]
     exact fun hh=>(hh.2.2 k (Zb.Name x) hk (ZaJ hx)).2 hm
    ·rename_i hm
     split
     ·rename_i hok
      refine .inl ⟨_,rfl,by simp,fun _=>h6',fun j d hj hd=>?_,fun j s hj hs=>?_⟩
      ·by_cases e:(j:Int)<k
       ·exact hS j d e hd
       ·have:j=k:=by omega
        subst this
        rw [hx] at hd;injection hd with hd;subst hd
        exact hok
      ·by_cases e:j<k
       ·exact hN j s e hs
       ·have:j=k:=by omega
        subst this
        rw [ZaJ hx] at hs;injection hs with hs;subst hs
        exact ⟨hp.1,hm⟩
     ·rename_i hok
      right
      rw [Zag]
      exact fun hh=>hok (hh.2.1 k x (by omega) hx)
   ·rename_i hp
    right
    rw [Zag]
    intro hh
    have h1:=(hh.2.2 k (Zb.Name x) hk (ZaJ hx)).1
    have h2:=hh.2.1 k x (by omega) hx
    unfold JN at h2
    simp only [Bool.and_eq_true] at h2
    exact hp (by rw [h1,h2.1];rfl)
  ·rename_i h6
   right
   rw [Zag (fun hh=>h6 (by have:=hh.1;omega))]
   simp [h6]
 ·rintro ⟨i,⟨⟩⟩ ⟨hi,_,hS,hN⟩
  simp only at hi
  subst hi
  simp only [Xa,Int.lt_irrefl,if_false]
  by_cases h6:(l.length:Int)≤6
  ·rw [ZcF ⟨by omega,hS,hN⟩,decide_eq_true h6]
  ·rw [Zag (fun hh=>h6 (by have:=hh.1;omega)),decide_eq_false h6]
structure Zlo (w:Wv):Prop where
 p1:2≤w.period
 p2:w.period≤100000
 r1:0≤w.rise
 r2:w.rise<w.period
 f1:0≤w.fall
 f2:w.fall<w.period
theorem Zm9 {l:List Zb} {m:Int} (hm:m≤6) (h:Ze2 l m):∀ (n:Nat) (k:Int),k<n→0≤k→k<m→k<l.length→Zlo (ZQ l k)
 | 0,k,h1,h2,_,_=>by omega
 | n+1,k,h1,h2,h3,h4=>by
  obtain ⟨c,hc⟩:∃ c,l[k.toNat]?=some c:=⟨_,List.getElem?_eq_getElem (by omega)⟩
  have hck:=h k.toNat c (by omega) hc
  rw [show ((k.toNat:Nat):Int)=k by omega] at hck
  have hsrc:ZfS l (k+1):=fun j d hj hd=>h.src (by omega) j d (by omega) hd
  have hw:=Zhd l k h2 c hc hsrc
  simp only [JN,Bool.and_eq_true] at hck
  obtain ⟨hpl,hck⟩:=hck
  split at hck
  ·rename_i hs
   rw [if_pos (by omega)] at hw
   simp only [ZbI,within,Bool.and_eq_true,decide_eq_true_eq] at hck
   obtain ⟨⟨⟨⟨⟨⟨a1,a2⟩,a3,a4⟩,a5,a6⟩,_⟩,_⟩,_⟩:=hck
   rw [XD (by omega) (by omega)] at a4 a6
   rw [hw]
   constructor<;>simp only<;>omega
  ·simp only [Zku,within,Bool.and_eq_true,decide_eq_true_eq] at hck
   obtain ⟨⟨⟨⟨⟨⟨a1,a2⟩,a3,a4⟩,_⟩,_⟩,_⟩,a5⟩:=hck
   rw [XD (by omega) (by omega)] at a2
   rw [if_neg (by omega)] at hw
   have ih:=Zm9 hm h n (Zb.Source c) (by omega) a1 (by omega) (by omega)
   have b1:=ih.p1;have b2:=ih.p2;have b3:=ih.r1;have b4:=ih.r2;have b5:=ih.f1;have b6:=ih.f2
   rw [hw] at a5 ⊢
   clear hw ih
   simp only [Zj9] at a5 ⊢
   generalize ZQ l (Zb.Source c)=w at *
   generalize Zb.Divide c=dv at *
   have q1:0≤dv.tdiv 2∧dv.tdiv 2≤4:=by
    rw [Int.tdiv_eq_ediv_of_nonneg (by omega)];omega
   have q2:2*1≤dv*w.period∧dv*w.period≤8*100000:=by
    constructor
    ·have:=Int.mul_le_mul a3 b1 (by omega) (by omega);omega
    ·exact Int.mul_le_mul a4 b2 (by omega) (by omega)
   have q3:0≤dv.tdiv 2*w.period∧dv.tdiv 2*w.period≤4*100000:=by
    constructor
    ·exact Int.mul_nonneg q1.1 (by omega)
    ·exact Int.mul_le_mul q1.2 b2 (by omega) (by omega)
   have q4:1<dv→dv.tdiv 2*w.period≤dv*w.period-w.period:=by
    intro hd
    have h1:dv.tdiv 2≤dv-1:=by rw [Int.tdiv_eq_ediv_of_nonneg (by omega)];omega
    have:=Int.mul_le_mul_of_nonneg_right h1 (show 0≤w.period by omega)
    rw [Int.sub_mul,Int.one_mul] at this
    exact this
   have q5:1<dv→w.period≤dv*w.period:=by
    intro hd
    have:=Int.mul_le_mul_of_nonneg_right (show (1:Int)≤dv by omega) (show 0≤w.period by omega)
    rw [Int.one_mul] at this
    exact this
   rw [XD (n:=dv*w.period) (by omega) (by omega),XD (n:=dv.tdiv 2) (by omega) (by omega),XD (n:=dv.tdiv 2*w.period) (by omega) (by omega),XD (n:=w.rise+dv.tdiv 2*w.period) (by omega) (by omega)] at a5 ⊢
   by_cases c1:1<dv<;>by_cases c2:Zb.ZaU c=true
   all_goals simp only [c1,c2,if_true,if_false,Bool.false_eq_true,true_implies,false_implies] at a5 q4 q5 ⊢
   all_goals (constructor<;>(try simp only)<;>omega)
theorem Zli {l:List Zb} {k:Int} (h:VZ l) (h0:0≤k) (hk:k<l.length):Zlo (ZQ l k):=by
 have h6:=h.1
 exact Zm9 (by omega) h.2.1 (k.toNat+1) k (by omega) h0 hk hk
theorem Vs {l:List Zb} {k:Int} (h:VZ l) (h0:0≤k) (hk:k<l.length):ZcP l k :=
 ⟨h0,hk,fun j c hj hc=>h.2.1.src (by have:=h.1;omega) j c (by omega) hc⟩
/-
  Plain laws: codes of clocks.
-/
noncomputable def codeOf (l:List Zb) (ks:List Int):Int:=if tr (VZ l)=true then (if allIn ks 0 ((l.length:Int)-1)=true then 0 else 4) else 1
theorem JC (l:List Zb) (ks:List Int) (hks:ks.length≤1000):XF l ks=some (codeOf l ks):=by
 unfold XF Yt codeOf
 rw [ZcM,Bq]
 split
 ·rename_i h
  have h6:=((Zgv _).1 h).1
  rw [Bq,XD (by omega) (by omega),Zcb _ _ _ (by omega),Bq]
  split<;>rfl
 ·rfl
theorem ZaA (l:List Zb) (k:Int) (hn:ZbH l) (hl:l.length≤4611686018427387904):QA l k=some (codeOf l [k]):=by
 unfold QA codeOf
 rw [Q5 l hn hl,Bq]
 split
 ·rw [Vx,Bq,XD (by omega) (by omega)]
  simp only [allIn,List.all_cons,List.all_nil,Bool.and_true]
  split<;>rfl
 ·rfl
theorem Zdy {l:List Zb} {a b:Int} (h:VZ l) (ha0:0≤a) (ha:a<l.length) (hb0:0≤b) (hb:b<l.length):ZfQ l a b :=
 ⟨Vs h ha0 ha,Vs h hb0 hb,by have:=(Zli h ha0 ha).p1;omega,by have:=(Zli h hb0 hb).p1;omega⟩
/-
  Plain laws: relations of clocks.
-/
def Zjl (n:Int):Bool:=within n 0 1
theorem Zfs (n:Int):Zjl n=true↔n=0∨n=1:=by unfold Zjl;rw [within_iff];omega
theorem ZaT (n:Int):Yz n=some (Zjl n):=by
 unfold Yz
 split
 ·rename_i h;rw [(Zfs n).2 (.inl h)]
 ·rename_i h
  congr 1
  rw [Bool.eq_iff_iff,Zfs,decide_eq_true_eq]
  omega
noncomputable def Qv (l:List Zb) (a ea b eb:Int):Int :=
 if tr (VZ l)=true then
  if (within a 0 ((l.length:Int)-1)&&within b 0 ((l.length:Int)-1))=true then
   if (Zjl ea&&Zjl eb)=true then
    if root l a=root l b then
     if 100000000<hyp (ZQ l a).period (ZQ l b).period then 3
     else if 200<Wq ((hyp (ZQ l a).period (ZQ l b).period).tdiv (ZQ l a).period) then 3 else 0
    else 5
   else 2
  else 4
 else 1
structure Zbj (l:List Zb) (a ea b eb:Int):Prop where
 ok:VZ l
 a0:0≤a
 a1:a<l.length
 b0:0≤b
 b1:b<l.length
 ea:ea=0∨ea=1
 eb:eb=0∨eb=1
 h:hyp (ZQ l a).period (ZQ l b).period≤100000000
theorem ZjE {l:List Zb} {a ea b eb:Int} (h:Qv l a ea b eb=0):Zbj l a ea b eb:=by
 unfold Qv at h
 split at h<;>try (cases h;done)
 rename_i h1
 split at h<;>try (cases h;done)
 rename_i h2
 split at h<;>try (cases h;done)
 rename_i h3
 split at h<;>try (cases h;done)
 split at h<;>try (cases h;done)
 rename_i h5
 simp only [Bool.and_eq_true,within_iff] at h2
 simp only [Bool.and_eq_true,Zfs] at h3
 exact ⟨(Zgv _).1 h1,h2.1.1,by omega,h2.2.1,by omega,h3.1,h3.2,by omega⟩
theorem ZaC (l:List Zb) (a ea b eb:Int) (hn:ZbH l) (hl:l.length≤4611686018427387904):QF l a ea b eb=some (Qv l a ea b eb):=by
 unfold QF Qv
 rw [Q5 l hn hl,Bq]
 split<;>try rfl
 rename_i hok
 have hok:=(Zgv _).1 hok
 rw [XD (by omega) (by omega)]
 simp only [Vx,Bq]
 cases ha:within a 0 ((l.length:Int)-1)
 ·simp
 cases hb:within b 0 ((l.length:Int)-1)
 ·simp
 simp only [if_true,Bool.true_and]
 have e1:within ea 0 1=Zjl ea:=rfl
 have e2:within eb 0 1=Zjl eb:=rfl
 rw [e1,e2]
 cases Zjl ea
 ·simp
 cases Zjl eb
 ·simp
 rw [within_iff] at ha hb
 have pa:=Vs hok ha.1 (by omega)
 have pb:=Vs hok hb.1 (by omega)
 have hp:=(Zli hok ha.1 (by omega)).p1
 simp only [if_true,Bool.true_and,ZaB pa,ZaB pb,Bq]
 split<;>try rfl
 rw [Zaf (Zdy hok ha.1 (by omega) hb.1 (by omega)),Bq]
 split<;>try rfl
 rw [XB pa,Bq]
 simp only [wvS,Zx.period]
 rw [ZB (by omega)]
 by_cases h2:200<Wq ((hyp (ZQ l a).period (ZQ l b).period).tdiv (ZQ l a).period)<;>simp [h2]
def ZcA:Ye:=((0,(0,0,()),()),(0,(0,0,()),()),0,0,0,())
def Jv (l:List Zb) (a ea b eb:Int):Ye:=(wvI (ZQ l a),wvI (ZQ l b),ea,eb,hyp (ZQ l a).period (ZQ l b).period,())
theorem Zdo (l:List Zb) (a ea b eb:Int):Q9 l a ea b eb=some (if Qv l a ea b eb=0 then Jv l a ea b eb else ZcA,Qv l a ea b eb):=by
 unfold Q9 Qv
 rw [JC _ _ (by simp),Bq]
 unfold codeOf
 cases hok:tr (VZ l)
 ·simp [ZcA]
 have hok:=(Zgv _).1 hok
 have e0:allIn [a,b] 0 ((l.length:Int)-1)=(within a 0 ((l.length:Int)-1)&&within b 0 ((l.length:Int)-1)):=by simp [allIn]
 rw [e0]
 cases hab:(within a 0 ((l.length:Int)-1)&&within b 0 ((l.length:Int)-1))
 ·simp [ZcA]
 simp only [if_true,ZaT,Bq]
 cases Zjl ea
 ·simp [ZcA]
 cases Zjl eb
 ·simp [ZcA]
 simp only [Bool.and_eq_true,within_iff] at hab
 have pa:=Vs hok hab.1.1 (by omega)
 have pb:=Vs hok hab.2.1 (by omega)
 have hp:=(Zli hok hab.1.1 (by omega)).p1
 simp only [if_true,Bool.true_and,ZaZ pa,ZaZ pb,Bq]
 by_cases hr:root l a=root l b
 ·simp only [hr,if_true,Qg pa,Qg pb,Bq,Za7 (Zdy hok hab.1.1 (by omega) hab.2.1 (by omega))]
  by_cases hh:100000000<hyp (ZQ l a).period (ZQ l b).period
  ·simp [hh,ZcA]
  ·simp only [hh,if_false,wvI,Yo.period]
   rw [ZB (by omega)]
   by_cases h2:200<Wq ((hyp (ZQ l a).period (ZQ l b).period).tdiv (ZQ l a).period)
   ·simp [h2,ZcA]
   ·simp [h2,Jv,wvI]
 ·simp [hr,ZcA]
def XQ (w:Wv) (e:Int):Int:=if e=0 then w.rise else w.fall
def Zci (w:Wv) (e t:Int):Int:=t+(XQ w e-t) % w.period
theorem JB {w:Wv} (h:Zlo w) (e:Int):0≤XQ w e∧XQ w e<w.period:=by
 unfold XQ
 split
 ·exact ⟨h.r1,h.r2⟩
 ·exact ⟨h.f1,h.f2⟩
theorem Zjs (a b:Int) (h1:-1000000000000≤a) (h2:a≤1000000000000) (h3:1≤b) (h4:b≤1000000000000):(Wq (a.tmod b+b)).tmod b=a % b:=by
 have e1:a.tmod b=a-b*(a.tdiv b):=by rw [Int.tmod_def]
 have hb:-b<a.tmod b∧a.tmod b<b:=⟨by have:=Int.lt_tmod_of_pos a (by omega:0<b);omega,Int.tmod_lt_of_pos a (by omega)⟩
 rw [XD (by omega) (by omega),Int.tmod_eq_emod_of_nonneg (by omega)]
 rw [e1,Int.add_emod_right,Int.sub_mul_emod_self_left]
theorem ZhI {w:Wv} (hw:Zlo w) (e:Int) {t:Int} (h1:-10000000000≤t) (h2:t≤10000000000) :
  Wq (t+(Wq ((Wq (XQ w e-t)).tmod w.period+w.period)).tmod w.period)=Zci w e t:=by
 have b:=JB hw e
 have p1:=hw.p1;have p2:=hw.p2
 rw [XD (n:=XQ w e-t) (by omega) (by omega),Zjs _ _ (by omega) (by omega) (by omega) (by omega)]
 have:=Int.emod_nonneg (XQ w e-t) (show w.period≠0 by omega)
 have:=Int.emod_lt_of_pos (XQ w e-t) (show 0<w.period by omega)
 exact XD (by omega) (by omega)
theorem Zf2 {w:Wv} (hw:Zlo w) {e t:Int} (he:e=0∨e=1) (h1:-10000000000≤t) (h2:t≤10000000000):Qh (wvI w) e t=some (Zci w e t):=by
 have p1:=hw.p1
 have:=ZhI hw e h1 h2
 unfold Qh VE
 rcases he with rfl | rfl
 ·simp only [wvI,Yo.edges,Yo.period,XQ,if_true] at this ⊢
  rw [ZB (by omega),ZB (by omega),ZB (by omega),Bq,this]
 ·have e1:¬(1:Int)=0:=by omega
  simp only [wvI,Yo.edges,Yo.period,XQ,e1,if_true,if_false] at this ⊢
  rw [ZB (by omega),ZB (by omega),ZB (by omega),Bq,this]
theorem ZbS {w:Wv} (hw:Zlo w) {e t:Int} (h1:-10000000000≤t) (h2:t≤10000000000):X6 (wvS w) e t=some (Zci w e t):=by
 have p1:=hw.p1
 have:=ZhI hw e h1 h2
 have e1:Vi (wvS w) e=some (XQ w e):=by
  unfold Vi XQ
  split<;>rfl
 unfold X6
 rw [e1,Bq]
 simp only [wvS,Zx.period] at this ⊢
 rw [ZB (by omega),this]
def Za2 (s p:Int) (w:Wv) (e:Int) (n:Nat):List (List Int):=(List.range n).map fun (i:Nat)=>[s+(i:Int)*p,Zci w e (s+(i:Int)*p+1)]
theorem Zg2 (s p:Int) (w:Wv) (e:Int) (n:Nat):Za2 s p w e (n+1)=Za2 s p w e n++[[s+n*p,Zci w e (s+n*p+1)]]:=by
 simp [Za2,List.range_succ]
theorem JW (s p:Int) (w:Wv) (e:Int) (n:Nat):(Za2 s p w e n).length=n:=by simp [Za2]
def count (s p h:Int):Nat:=((h-s+p-1) / p).toNat
theorem ZcW {s p h:Int} (hp:0<p) {i:Nat} (hi:i<count s p h):s+i*p<h:=by
 unfold count at hi
 have h1:((i:Int)+1)≤(h-s+p-1) / p:=by omega
 have h2:=(Int.le_ediv_iff_mul_le hp).1 h1
 rw [Int.add_mul] at h2
 omega
theorem Zhj {s p h:Int} (hp:0<p):h≤s+(count s p h:Int)*p:=by
 unfold count
 have h1:=Int.lt_ediv_add_one_mul_self (h-s+p-1) hp
 have h2:(h-s+p-1) / p≤(((h-s+p-1) / p).toNat:Int):=Int.self_le_toNat _
 have h3:=Int.mul_le_mul_of_nonneg_right h2 (show 0≤p by omega)
 rw [Int.add_mul] at h1
 omega
structure Zln (wa wb:Wv) (s h:Int):Prop where
 wa:Zlo wa
 wb:Zlo wb
 s0:0≤s
 s1:s≤100000
 hh:h≤100000000
theorem ZeO {wa wb:Wv} {s h eb:Int} (hp:Zln wa wb s h) {step:List (List Int)×Int×Unit→Option ((List (List Int)×Int×Unit) ⊕ List (List Int))}
  (hstep:∀ (out:List (List Int)) (at0:Int),0≤at0→at0≤10000000*100→step (out,at0,()) =
   if at0<h then Zj ((out.length+List.length [[at0,Zci wb eb (at0+1)]])*24≤140737488355328) (some (.inl (out++[[at0,Zci wb eb (at0+1)]],Wq (at0+wa.period),()))) else some (.inr out)) :
  ZA step ([],s,())=some (Za2 s wa.period wb eb (count s wa.period h)):=by
 have p1:=hp.wa.p1;have p2:=hp.wa.p2;have s0:=hp.s0;have s1:=hp.s1;have hh:=hp.hh
 have hcnt:count s wa.period h≤200000000:=by
  unfold count
  by_cases hneg:0≤h-s+wa.period-1
  ·have:=Int.ediv_le_self (b:=wa.period) hneg
   omega
  ·have:(h-s+wa.period-1) / wa.period≤0:=by
    have:=Int.ediv_neg_of_neg_of_pos (show h-s+wa.period-1<0 by omega) (show 0<wa.period by omega)
    omega
   omega
 refine XC (count s wa.period h) (fun k v=>v=(Za2 s wa.period wb eb k,s+(k:Int)*wa.period,())) _ (by simp [Za2]) ?_ ?_
 ·rintro k _ hk rfl
  have h1:=ZcW (show 0<wa.period by omega) hk
  have h2:0≤(k:Int)*wa.period:=Int.mul_nonneg (by omega) (by omega)
  rw [hstep _ _ (by omega) (by omega),if_pos h1,ZB (by rw [JW];simp;omega)]
  left
  refine ⟨_,rfl,?_⟩
  rw [Zg2,XD (by omega) (by omega)]
  simp only [Prod.mk.injEq,and_true,true_and]
  rw [Int.natCast_add,Int.add_mul]
  omega
 ·rintro _ rfl
  have h1:=Zhj (s:=s) (h:=h) (show 0<wa.period by omega)
  have h2:0≤(count s wa.period h:Int)*wa.period:=Int.mul_nonneg (by omega) (by omega)
  by_cases hz:count s wa.period h=0
  ·rw [hstep _ _ (by omega) (by rw [hz];simp;omega),if_neg (by omega)]
  ·have h3:=ZcW (s:=s) (h:=h) (show 0<wa.period by omega) (show count s wa.period h-1<count s wa.period h by omega)
   have h4:((count s wa.period h-1:Nat):Int)=(count s wa.period h:Int)-1:=by omega
   rw [h4,Int.sub_mul] at h3
   rw [hstep _ _ (by omega) (by omega),if_neg (by omega)]
theorem ZmL {x y:Int} (hx:2≤x) (hx2:x≤100000) (hy:2≤y) (hy2:y≤100000):x≤hyp x y:=by
 unfold hyp
 have g0:0<Int.gcd x y:=Int.gcd_pos_of_ne_zero_left y (by omega)
 have gx:((Int.gcd x y:Nat):Int)∣x:=Int.gcd_dvd_left ..
 have gy:((Int.gcd x y:Nat):Int)∣y:=Int.gcd_dvd_right ..
 generalize Int.gcd x y=g at *
 obtain ⟨p,hp⟩:=gx
 obtain ⟨q,hq⟩:=gy
 have hpos:0<(g:Int):=by omega
 have hp0:0<p:=by
  rcases Int.lt_or_le 0 p with h | h
  ·exact h
  ·have:=Int.mul_nonneg (show 0≤(g:Int) by omega) (show 0≤-p by omega);rw [Int.mul_neg] at this;omega
 have hq0:0<q:=by
  rcases Int.lt_or_le 0 q with h | h
  ·exact h
  ·have:=Int.mul_nonneg (show 0≤(g:Int) by omega) (show 0≤-q by omega);rw [Int.mul_neg] at this;omega
 have e1:x.tdiv g=p:=by rw [hp,Int.mul_tdiv_cancel_left _ (by omega)]
 have hpx:p≤x:=by
  have:=Int.mul_le_mul_of_nonneg_right (show (1:Int)≤g by omega) (show 0≤p by omega)
  rw [Int.one_mul] at this;omega
 have hb:0≤p*y∧p*y≤100000*100000:=⟨Int.mul_nonneg (by omega) (by omega),Int.mul_le_mul (by omega) hy2 (by omega) (by omega)⟩
 rw [e1,XD (n:=p) (by omega) (by omega),XD (by omega) (by omega)]
 have h1:=Int.mul_le_mul_of_nonneg_left (show (g:Int)≤y by
  have:=Int.mul_le_mul_of_nonneg_left (show (1:Int)≤q by omega) (show 0≤(g:Int) by omega)
  rw [Int.mul_one] at this;omega) (show 0≤p by omega)
 rw [Int.mul_comm p g] at h1
 omega
noncomputable def Yr (l:List Zb) (a ea b eb:Int):List (List Int) :=
 Za2 (XQ (ZQ l a) ea) (ZQ l a).period (ZQ l b) eb (count (XQ (ZQ l a) ea) (ZQ l a).period (hyp (ZQ l a).period (ZQ l b).period))
theorem Zet {l:List Zb} {a ea b eb:Int} (h:Zbj l a ea b eb):Zln (ZQ l a) (ZQ l b) (XQ (ZQ l a) ea) (hyp (ZQ l a).period (ZQ l b).period):=by
 have wa:=Zli h.ok h.a0 h.a1
 have be:=JB wa ea
 have:=wa.p2
 exact ⟨wa,Zli h.ok h.b0 h.b1,by omega,by omega,h.h⟩
theorem ZbA {l:List Zb} {a ea b eb:Int} (h:Zbj l a ea b eb):YS (Jv l a ea b eb)=some (Yr l a ea b eb):=by
 have pp:=Zet h
 have wb:=pp.wb
 have lp:=ZeO (eb:=eb) pp (step:=fun v=>ZO (Jv l a ea b eb) v.1 v.2.1) (fun out at0 h0 h1=>by
  simp only [ZO,Jv,Ye.hyper,Ye.to,Ye.eb,Ye.from]
  rw [XD (n:=at0+1) (by omega) (by omega),Zf2 wb h.eb (by omega) (by omega),Bq]
  rfl)
 unfold YS Yr
 rcases h.ea with rfl | rfl
 ·simp only [Jv,Ye.ea,Ye.from,Yo.edges,wvI,XQ,if_true] at lp ⊢
  rw [ZB (by omega),ZB (by omega)]
  exact lp
 ·have e1:¬(1:Int)=0:=by omega
  simp only [Jv,Ye.ea,Ye.from,Yo.edges,wvI,XQ,e1,if_true,if_false] at lp ⊢
  rw [ZB (by omega),ZB (by omega)]
  exact lp
theorem ZbU {l:List Zb} {a ea b eb:Int} (h:Zbj l a ea b eb):X8 l a ea b eb=some (Yr l a ea b eb):=by
 have pp:=Zet h
 have wa:=pp.wa
 have wb:=pp.wb
 have be:=JB wa ea
 have e0:Zci (ZQ l a) ea 0=XQ (ZQ l a) ea:=by
  unfold Zci
  rw [Int.sub_zero,Int.emod_eq_of_lt be.1 be.2];omega
 unfold X8 Yr
 rw [Zaf (Zdy h.ok h.a0 h.a1 h.b0 h.b1),Bq,XB (Vs h.ok h.a0 h.a1),Bq,XB (Vs h.ok h.b0 h.b1),Bq,
  ZbS wa (by omega) (by omega),Bq,e0]
 refine ZeO pp (fun out at0 h0 h1=>?_)
 simp only [X9]
 rw [XD (n:=at0+1) (by omega) (by omega),ZbS wb (by omega) (by omega),Bq]
 rfl
structure Zix (x:List Int) (wb:Wv):Prop where
 two:∃ u v,x=[u,v]∧0≤u∧u≤100000000∧1≤v-u∧v-u≤wb.period
def dif (x:List Int):Int:=(x[1]?.getD 0)-(x[0]?.getD 0)
theorem Xo {l:List Zb} {a ea b eb:Int} (h:Zbj l a ea b eb):∀ x∈Yr l a ea b eb,Zix x (ZQ l b):=by
 have pp:=Zet h
 intro x hx
 simp only [Yr,Za2,List.mem_map,List.mem_range] at hx
 obtain ⟨i,hi,rfl⟩:=hx
 have p1:=pp.wa.p1;have p3:=pp.wb.p1;have s0:=pp.s0;have hh:=pp.hh
 have h1:=ZcW (by omega) hi
 have h2:0≤(i:Int)*(ZQ l a).period:=Int.mul_nonneg (by omega) (by omega)
 refine ⟨_,_,rfl,by omega,by omega,?_⟩
 unfold Zci
 generalize XQ (ZQ l a) ea+(i:Int)*(ZQ l a).period=t at *
 have:=Int.emod_nonneg (XQ (ZQ l b) eb-(t+1)) (show (ZQ l b).period≠0 by omega)
 have:=Int.emod_lt_of_pos (XQ (ZQ l b) eb-(t+1)) (show 0<(ZQ l b).period by omega)
 omega
theorem ZeN {l:List Zb} {a ea b eb:Int} (h:Zbj l a ea b eb):∃ x r,Yr l a ea b eb=x::r:=by
 have pp:=Zet h
 have be:=JB pp.wa ea
 have p1:=pp.wa.p1;have p2:=pp.wa.p2;have p3:=pp.wb.p1;have p4:=pp.wb.p2
 have hge:=ZmL p1 p2 p3 p4
 have hc:=Zhj (s:=XQ (ZQ l a) ea) (h:=hyp (ZQ l a).period (ZQ l b).period) (show 0<(ZQ l a).period by omega)
 cases hn:count (XQ (ZQ l a) ea) (ZQ l a).period (hyp (ZQ l a).period (ZQ l b).period) with
 | zero=>rw [hn] at hc;simp at hc;omega
 | succ n =>
  have:(Yr l a ea b eb).length=n+1:=by rw [Yr,JW,hn]
  cases hp:Yr l a ea b eb with
  | nil=>rw [hp] at this;simp at this
  | cons x r=>exact ⟨x,r,rfl⟩
theorem ZjM {α:Type} {l:List α} {k:Nat} {x:α} (hx:l[k]?=some x):l.set k x=l:=by
 apply List.ext_getElem?
 intro j
 rw [List.getElem?_set]
 split
 ·rename_i e
  subst e
  rw [if_pos (List.getElem?_eq_some_iff.1 hx).1,hx]
 ·rfl
theorem Zbx {ρ:Type} {L:List (List Int)} {wb:Wv} (hL:∀ x∈L,Zix x wb) (hlen:L.length≤4611686018427387904) {g:Int→Int→Int} {out:Int→ρ} {init:Int}
  {step:Int×Int×List (List Int)×Unit→Option ((Int×Int×List (List Int)×Unit) ⊕ ρ)}
  (hstep:∀ (m:Int) (k:Nat),step (m,(k:Int),L,())=if (k:Int)<(L.length:Int) then (atI L (k:Int)).bind fun x=>(atI x 1).bind fun v=>(atI x 0).bind fun u =>
   some (.inl (g m (Wq (v-u)),Wq ((k:Int)+1),List.set L (Int.toNat (k:Int)) x,())) else some (.inr (out m)))
  (hwb:wb.period≤100000):ZA step (init,0,L,())=some (out ((L.map dif).foldl g init)):=by
 refine XC L.length (fun k v=>v=(((L.take k).map dif).foldl g init,(k:Int),L,())) _ rfl ?_ ?_
 ·rintro k _ hk rfl
  have hx:L[k]?=some L[k]:=List.getElem?_eq_getElem hk
  generalize L[k]=x at hx
  obtain ⟨u,v,rfl,h1,h2,h3,h4⟩:=(hL x (List.mem_of_getElem? hx)).two
  rw [hstep,if_pos (by omega),VU,hx,Bq]
  have e1:atI [u,v] 1=some v:=rfl
  have e0:atI [u,v] 0=some u:=rfl
  rw [e1,Bq,e0,Bq,XD (n:=v-u) (by omega) (by omega),XD (by omega) (by omega),Int.toNat_natCast,ZjM hx]
  refine .inl ⟨_,rfl,?_⟩
  rw [JI hx]
  simp [dif]
 ·rintro _ rfl
  rw [hstep,if_neg (by omega),List.take_length]
theorem Ziy {x:List Int} {wb:Wv} (h:Zix x wb) (hwb:wb.period≤100000):∃ u v,x=[u,v]∧Wq (v-u)=dif x∧1≤dif x∧dif x≤wb.period:=by
 obtain ⟨u,v,rfl,h1,h2,h3,h4⟩:=h.two
 exact ⟨u,v,rfl,by rw [XD (by omega) (by omega)];rfl,h3,h4⟩
noncomputable def J6 (l:List Zb) (a ea b eb:Int):Int:=((Yr l a ea b eb).map dif).foldl min (ZQ l b).period
noncomputable def Zdn (l:List Zb) (a ea b eb:Int):Int:=((Yr l a ea b eb).map dif).foldl (fun m d=>max m (d-min (ZQ l b).period (ZQ l a).period)) (-(ZQ l b).period-(ZQ l a).period)
theorem JX {l:List Zb} {a ea b eb:Int} (h:Zbj l a ea b eb):(Yr l a ea b eb).length≤4611686018427387904:=by
 have pp:=Zet h
 rw [Yr,JW]
 cases hn:count (XQ (ZQ l a) ea) (ZQ l a).period (hyp (ZQ l a).period (ZQ l b).period) with
 | zero=>omega
 | succ n =>
  have p1:=pp.wa.p1;have hh:=pp.hh;have s0:=pp.s0
  have h1:=ZcW (s:=XQ (ZQ l a) ea) (h:=hyp (ZQ l a).period (ZQ l b).period) (show 0<(ZQ l a).period by omega) (show n<_ by rw [hn];omega)
  have h2:=Int.mul_le_mul_of_nonneg_left (show (1:Int)≤(ZQ l a).period by omega) (show 0≤(n:Int) by omega)
  omega
theorem Zfp {l:List Zb} {a ea b eb:Int} (h:Zbj l a ea b eb):Xg (Jv l a ea b eb)=some (J6 l a ea b eb):=by
 unfold Xg
 rw [ZbA h,Bq]
 exact Zbx (out:=fun m=>m) (Xo h) (JX h) (fun m k=>rfl) (Zet h).wb.p2
theorem Zf1 {l:List Zb} {a ea b eb:Int} (h:Zbj l a ea b eb):XI (Jv l a ea b eb)=some (Zdn l a ea b eb):=by
 have pp:=Zet h
 have p1:=pp.wa.p1;have p2:=pp.wa.p2;have p3:=pp.wb.p1;have p4:=pp.wb.p2
 unfold XI
 rw [ZbA h,Bq]
 have:=Zbx (ρ:=Int) (out:=fun m=>m) (g:=fun m d=>max m (Wq (d-min (ZQ l b).period (ZQ l a).period))) (init:=Wq (Wq (0-(ZQ l b).period)-(ZQ l a).period)) (Xo h) (JX h)
  (step:=fun v=>Xm (Jv l a ea b eb) (Yr l a ea b eb) v.1 v.2.1 v.2.2.1) (fun m k=>rfl) p4
 refine this.trans ?_
 rw [XD (n:=0-(ZQ l b).period) (by omega) (by omega),XD (n:=0-(ZQ l b).period-(ZQ l a).period) (by omega) (by omega)]
 unfold Zdn
 congr 1
 rw [Int.zero_sub]
 have hb:∀ d∈(Yr l a ea b eb).map dif,1≤d∧d≤100000:=by
  intro d hd
  obtain ⟨x,hx,rfl⟩:=List.mem_map.1 hd
  obtain ⟨u,v,_,_,h1,h2⟩:=Ziy (Xo h x hx) p4
  omega
 generalize (Yr l a ea b eb).map dif=D at hb
 generalize -(ZQ l b).period-(ZQ l a).period=m0
 induction D generalizing m0 with
 | nil=>rfl
 | cons d D ih =>
  have:=hb d (by simp)
  simp only [List.foldl_cons]
  rw [XD (n:=d-min (ZQ l b).period (ZQ l a).period) (by omega) (by omega)]
  exact ih (fun d hd=>hb d (by simp [hd])) _
theorem Zdj {d i:Int} {r:List Int} (h:d≤i):(d::r).foldl min i=(d::r).foldl min d:=by
 simp only [List.foldl_cons]
 rw [show min i d=d by omega,show min d d=d by omega]
theorem ZfF {l:List Zb} {a ea b eb:Int} (hn:ZbH l) (hl:l.length≤4611686018427387904) :
  Ym l a ea b eb=some (if Qv l a ea b eb=0 then J6 l a ea b eb else 0,Qv l a ea b eb):=by
 unfold Ym
 rw [ZaC l a ea b eb hn hl,Bq]
 split
 ·rename_i hc
  have h:=ZjE hc
  have pp:=Zet h
  obtain ⟨x,r,hx⟩:=ZeN h
  have hpx:=Xo h x (by rw [hx];simp)
  obtain ⟨u,v,hxuv,hwd,hd1,hd2⟩:=Ziy hpx pp.wb.p2
  rw [ZbU h,Bq,hc]
  have e:atI (Yr l a ea b eb) 0=some x:=by rw [hx];rfl
  have e1:atI x 1=some v:=by rw [hxuv];rfl
  have e0:atI x 0=some u:=by rw [hxuv];rfl
  have ei:List.set (Yr l a ea b eb) (Int.toNat 0) x=Yr l a ea b eb:=ZjM (by rw [hx];rfl)
  rw [e,Bq,e1,Bq,e0,Bq,hwd,ei]
  rw [Zbx (g:=min) (out:=fun m=>(m,(0:Int))) (Xo h) (JX h) (fun m k=>rfl) pp.wb.p2]
  unfold J6
  rw [hx,List.map_cons,Zdj hd2]
 ·rfl
theorem Zdi {d i c:Int} {r:List Int} (h:i≤d-c):(d::r).foldl (fun m d=>max m (d-c)) i=(d::r).foldl (fun m d=>max m (d-c)) (d-c):=by
 simp only [List.foldl_cons]
 rw [show max i (d-c)=d-c by omega,show max (d-c) (d-c)=d-c by omega]
theorem Zgo {l:List Zb} {a ea b eb:Int} (hn:ZbH l) (hl:l.length≤4611686018427387904) :
  YD l a ea b eb=some (if Qv l a ea b eb=0 then Zdn l a ea b eb else 0,Qv l a ea b eb):=by
 unfold YD
 rw [ZaC l a ea b eb hn hl,Bq]
 split
 ·rename_i hc
  have h:=ZjE hc
  have pp:=Zet h
  have p1:=pp.wa.p1;have p2:=pp.wa.p2;have p3:=pp.wb.p1;have p4:=pp.wb.p2
  obtain ⟨x,r,hx⟩:=ZeN h
  have hpx:=Xo h x (by rw [hx];simp)
  obtain ⟨u,v,hxuv,hwd,hd1,hd2⟩:=Ziy hpx pp.wb.p2
  rw [ZbU h,Bq,XB (Vs h.ok h.a0 h.a1),Bq,XB (Vs h.ok h.b0 h.b1),Bq,hc]
  have e:atI (Yr l a ea b eb) 0=some x:=by rw [hx];rfl
  have e1:atI x 1=some v:=by rw [hxuv];rfl
  have e0:atI x 0=some u:=by rw [hxuv];rfl
  have ei:List.set (Yr l a ea b eb) (Int.toNat 0) x=Yr l a ea b eb:=ZjM (by rw [hx];rfl)
  rw [e,Bq,e1,Bq,e0,Bq,hwd,ei]
  simp only [wvS,Zx.period]
  have:=Zbx (g:=fun m d=>max m (Wq (d-min (ZQ l a).period (ZQ l b).period))) (out:=fun m=>(m,(0:Int))) (init:=Wq (dif x-min (ZQ l a).period (ZQ l b).period)) (Xo h) (JX h)
   (step:=fun v=>YI (wvS (ZQ l a)) (wvS (ZQ l b)) v.1 v.2.1 v.2.2.1) (fun m k=>rfl) p4
  refine this.trans ?_
  have hb:∀ d∈(Yr l a ea b eb).map dif,1≤d∧d≤100000:=by
   intro d hd
   obtain ⟨x,hx,rfl⟩:=List.mem_map.1 hd
   obtain ⟨u,v,_,_,h1,h2⟩:=Ziy (Xo h x hx) p4
   omega
  have step:∀ (D:List Int),(∀ d∈D,1≤d∧d≤100000)→∀ m0,D.foldl (fun m d=>max m (Wq (d-min (ZQ l a).period (ZQ l b).period))) m0=D.foldl (fun m d=>max m (d-min (ZQ l b).period (ZQ l a).period)) m0:=by
   intro D
   induction D with
   | nil=>intro _ _;rfl
   | cons d D ih =>
    intro hb m0
    have:=hb d (by simp)
    simp only [List.foldl_cons]
    rw [XD (n:=d-min (ZQ l a).period (ZQ l b).period) (by omega) (by omega),ih (fun d hd=>hb d (by simp [hd]))]
    congr 2;omega
  rw [step _ hb,XD (by omega) (by omega)]
  unfold Zdn
  rw [hx,List.map_cons,Zdi (i:=-(ZQ l b).period-(ZQ l a).period) (by omega),show min (ZQ l a).period (ZQ l b).period=min (ZQ l b).period (ZQ l a).period by omega]
 ·rfl
/-
  Plain laws: what RelationOf answers.
-/
def ZkR (l:List Zb) (a b su ho:Int):Qp:=(su,ho,max (Zb.ZR (l[a.toNat]?.getD default)) (Zb.ZR (l[b.toNat]?.getD default)),())
def Zos:Qp:=(0,0,0,())
noncomputable def XJ (l:List Zb) (a b:Int):Qp×Int :=
 (if Qv l a 0 b 0=0 then ZkR l a b (J6 l a 0 b 0) (Zdn l a 0 b 0) else Zos,Qv l a 0 b 0)
theorem Jl (s:Zw) (a b:Int):Y6 s a b=some (XJ (Zw.XP s) a b):=by
 unfold Y6 XJ
 rw [Zdo,Bq]
 generalize Zw.XP s=l
 simp only
 split
 ·rename_i hc
  have h:=ZjE hc
  obtain ⟨x,hx,hx'⟩:=Zbn h.a0 h.a1
  obtain ⟨y,hy,hy'⟩:=Zbn h.b0 h.b1
  rw [hx,Bq,hy,Bq,Zfp h,Bq,Zf1 h,Bq,hc]
  simp [ZkR,hx',hy']
 ·rfl
theorem Zaz {l:List Zb} {a b:Int} (h:Zbj l a 0 b 0) (hn:ZbH l) (hl:l.length≤4611686018427387904) :
  YN l a b=some (max (Zb.ZR (l[a.toNat]?.getD default)) (Zb.ZR (l[b.toNat]?.getD default)),0):=by
 have hk:∀ k:Int,0≤k→k<l.length→codeOf l [k]=0:=by
  intro k h0 h1
  unfold codeOf
  rw [if_pos (ZcF h.ok),if_pos]
  simp only [allIn,List.all_cons,List.all_nil,Bool.and_true,within_iff]
  omega
 obtain ⟨x,hx,hx'⟩:=Zbn h.a0 h.a1
 obtain ⟨y,hy,hy'⟩:=Zbn h.b0 h.b1
 unfold YN
 rw [ZaA l a hn hl,Bq,hk a h.a0 h.a1,if_pos rfl,ZaA l b hn hl,Bq,hk b h.b0 h.b1,if_pos rfl,hx,Bq,hy,Bq]
 simp [hx',hy']
theorem ZbR (s:Zw) (a b:Int) (hn:ZbH (Zw.XP s)) (hl:(Zw.XP s).length≤4611686018427387904):XK s a b=some (XJ (Zw.XP s) a b):=by
 unfold XK XJ
 generalize Zw.XP s=l at *
 rw [ZfF hn hl,Bq]
 simp only
 split
 ·rename_i hc
  have h:=ZjE hc
  rw [Zgo hn hl,Bq,Zaz h hn hl,Bq,hc]
  rfl
 ·rfl
end Go.Proofs.YtnnbgbgapogckaaGreatDoor
