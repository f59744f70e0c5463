/-
  Plain laws: clocks, their waves, roots, periods; which clocks are valid.
-/
import Derived.Test.YthkhedimjmkifaaGreatDoorLA
namespace Go.Proofs.YthkhedimjmkifaaGreatDoor
set_option linter.unusedVariables false
set_option linter.unusedSimpArgs false
open Go Go.Sx
structure Wv where
  period:Int
  rise:Int
  fall:Int
def Zx3 (c:Zl) (w:Wv):Wv :=
  let w1:Wv:=if 1<Zl.Divide c then ⟨Wq (Zl.Divide c*w.period),w.rise,Wq (w.rise+Wq (Wq ((Zl.Divide c).tdiv 2)*w.period))⟩ else w
  if Zl.Zkd c=true then ⟨w1.period,w1.fall,w1.rise⟩ else w1
def ZvE (l:List Zl):Nat→Int→Wv
  | 0,_=>⟨0,0,0⟩
  | n+1,k=>match l[k.toNat]? with
    | none=>⟨0,0,0⟩
    | some c=>if Zl.Source c<0 then ⟨Zl.Zca c,Zl.ZdJ c,Zl.ZdM c⟩ else Zx3 c (ZvE l n (Zl.Source c))
def Zmo (l:List Zl) (k:Int):Wv:=ZvE l (k.toNat+1) k
def Zw3 (l:List Zl) (m:Int):Prop:=∀ (j:Nat) (c:Zl),(j:Int)<m→l[j]?=some c→Zl.Source c<(j:Int)
theorem Zm0 (l:List Zl):∀ (n:Nat) (k:Int),0≤k→k<n→Zw3 l (k+1)→ZvE l n k=Zmo l k
  | 0,k,h0,h1,_=>by omega
  | n+1,k,h0,h1,hs=>by
    unfold Zmo
    simp only [ZvE]
    cases hc:l[k.toNat]? with
    | none=>rfl
    | some c =>
      simp only
      split
      · rfl
      · rename_i hsrc
        have hlt:=hs k.toNat c (by omega) hc
        have hs':Zw3 l (Zl.Source c+1):=fun j c' hj hc'=>hs j c' (by omega) hc'
        have e1:=Zm0 l n (Zl.Source c) (by omega) (by omega) hs'
        rw [e1]
        have:∀ m:Nat,Zl.Source c<m→m<n+1→ZvE l m (Zl.Source c)=Zmo l (Zl.Source c):=fun m hm hmn=>Zm0 l m (Zl.Source c) (by omega) hm hs'
        by_cases hk:k.toNat<n+1∧Zl.Source c<(k.toNat:Int)
        · rw [this k.toNat hk.2 hk.1]
        · omega
  termination_by n=>n
theorem ZwJ (l:List Zl) (k:Int) (h0:0≤k) (c:Zl) (hc:l[k.toNat]?=some c) (hs:Zw3 l (k+1)) :
    Zmo l k=if Zl.Source c<0 then ⟨Zl.Zca c,Zl.ZdJ c,Zl.ZdM c⟩ else Zx3 c (Zmo l (Zl.Source c)):=by
  unfold Zmo
  rw [ZvE,hc]
  simp only
  split
  · rfl
  · rename_i hsrc
    have hlt:=hs k.toNat c (by omega) hc
    rw [Zm0 l k.toNat (Zl.Source c) (by omega) hlt (fun j c' hj hc'=>hs j c' (by omega) hc')]
    rfl
def wvI (w:Wv):ZeK:=(w.period,(w.rise,w.fall,()),())
def wvS (w:Wv):Xu:=(w.period,w.rise,w.fall,())
def Zwt (l:List Zl) (k:Int):Prop:=0≤k∧k<l.length∧Zw3 l (k+1)
theorem Ze0 (l:List Zl):∀ (n:Nat) (k:Int),Zwt l k→(∀ r,Zao n l k=some r→r=wvI (Zmo l k))∧(k<n→Zao n l k=some (wvI (Zmo l k)))
  | 0,k,hp=>⟨fun r h=>by simp [Zao] at h,fun h=>by have:=hp.1;omega⟩
  | n+1,k,hp=>by
    obtain ⟨h0,h1,h2⟩:=hp
    obtain ⟨c,hc,hc'⟩:=Zqy h0 h1
    have hw:=ZwJ l k h0 c hc' h2
    simp only [Zao,ZaG,hc,Bq]
    split
    · rename_i hs
      rw [if_pos hs] at hw
      rw [hw]
      exact ⟨fun r h=>by injection h with h;exact h.symm,fun _=>rfl⟩
    · rename_i hs
      rw [if_neg hs] at hw
      have hlt:=h2 k.toNat c (by omega) hc'
      have ih:=Ze0 l n (Zl.Source c) ⟨by omega,by omega,fun j d hj hd=>h2 j d (by omega) hd⟩
      have fin:∀ o:Option ZeK,(∀ r,o=some r→r=wvI (Zmo l (Zl.Source c)))→∀ F:ZeK→Option ZeK,F (wvI (Zmo l (Zl.Source c)))=some (wvI (Zmo l k))→(∀ r,o.bind F=some r→r=wvI (Zmo l k))∧(o≠none→o.bind F=some (wvI (Zmo l k))):=by
        intro o ho F hF
        cases o with
        | none=>exact ⟨fun r h=>(by cases h),fun h=>absurd rfl h⟩
        | some x =>
          have:=ho x rfl
          subst this
          rw [Bq,hF]
          exact ⟨fun r h=>by injection h with h;exact h.symm,fun _=>rfl⟩
      refine And.imp_right (fun h2 hk=>h2 (by rw [ih.2 (by omega)];simp)) (fin _ ih.1 _ ?_)
      rw [hw]
      simp only [Zx3,wvI]
      split<;>split<;>simp [*]
theorem ZpY {l:List Zl} {k:Int} (hp:Zwt l k):ZhX l k=some (wvI (Zmo l k)) :=
  ZvZ ⟨k.toNat+1,(Ze0 l _ k hp).2 (by have:=hp.1;omega)⟩ (fun n r h=>(Ze0 l n k hp).1 r h)
theorem Zgd (l:List Zl):∀ (n:Nat) (k:Int),Zwt l k→(∀ r,Zbt n l k=some r→r=wvS (Zmo l k))∧(k<n→Zbt n l k=some (wvS (Zmo l k)))
  | 0,k,hp=>⟨fun r h=>by simp [Zbt] at h,fun h=>by have:=hp.1;omega⟩
  | n+1,k,hp=>by
    obtain ⟨h0,h1,h2⟩:=hp
    obtain ⟨c,hc,hc'⟩:=Zqy h0 h1
    have hw:=ZwJ l k h0 c hc' h2
    simp only [Zbt,Zbp,hc,Bq]
    split
    · rename_i hs
      rw [if_pos hs] at hw
      rw [hw]
      exact ⟨fun r h=>by injection h with h;exact h.symm,fun _=>rfl⟩
    · rename_i hs
      rw [if_neg hs] at hw
      have hlt:=h2 k.toNat c (by omega) hc'
      have ih:=Zgd l n (Zl.Source c) ⟨by omega,by omega,fun j d hj hd=>h2 j d (by omega) hd⟩
      have fin:∀ o:Option Xu,(∀ r,o=some r→r=wvS (Zmo l (Zl.Source c)))→∀ F:Xu→Option Xu,F (wvS (Zmo l (Zl.Source c)))=some (wvS (Zmo l k))→(∀ r,o.bind F=some r→r=wvS (Zmo l k))∧(o≠none→o.bind F=some (wvS (Zmo l k))):=by
        intro o ho F hF
        cases o with
        | none=>exact ⟨fun r h=>(by cases h),fun h=>absurd rfl h⟩
        | some x =>
          have:=ho x rfl
          subst this
          rw [Bq,hF]
          exact ⟨fun r h=>by injection h with h;exact h.symm,fun _=>rfl⟩
      refine And.imp_right (fun h2 hk=>h2 (by rw [ih.2 (by omega)];simp)) (fin _ ih.1 _ ?_)
      rw [hw]
      simp only [Zx3,wvS]
      split<;>split<;>simp [*,Int.mul_comm]
theorem Zsf {l:List Zl} {k:Int} (hp:Zwt l k):Zju l k=some (wvS (Zmo l k)) :=
  ZvZ ⟨k.toNat+1,(Zgd l _ k hp).2 (by have:=hp.1;omega)⟩ (fun n r h=>(Zgd l n k hp).1 r h)
def Zk7 (c:Zl):Bool:=decide (0≤Zl.Place c)&&decide (0≤Zl.X6 c)&&decide (Zl.X6 c≤Zl.VE c)&&decide (Zl.VE c≤100000)&&within (Zl.Zbe c) 0 100000
def ZnJ (c:Zl):Bool:=within (Zl.Zca c) 2 100000&&within (Zl.ZdJ c) 0 (Wq (Zl.Zca c-1))&&within (Zl.ZdM c) 0 (Wq (Zl.Zca c-1))&&decide (Zl.ZdJ c≠Zl.ZdM c)&&decide (Zl.Divide c=1)&&!Zl.Zkd c
def ZAm (l:List Zl) (k:Int) (c:Zl):Bool:=within (Zl.Source c) 0 (Wq (k-1))&&within (Zl.Divide c) 1 8&&decide (Zl.Zca c=0)&&decide (Zl.ZdJ c=0)&&decide (Zl.ZdM c=0)&&decide ((Zmo l k).period≤100000)
def Zh8 (l:List Zl) (k:Int) (c:Zl):Bool:=Zk7 c&&(if Zl.Source c=-1 then ZnJ c else ZAm l k c)
theorem Zm8 (c:Zl):JD c=some (ZnJ c):=by
  unfold JD
  simp only [Vo,Bq]
  repeat' split
  all_goals simp [ZnJ, *]
theorem ZlF (c:Zl):ZcY c=some (ZnJ c):=by
  unfold ZcY
  simp only [Jj,Bq]
  repeat' split
  all_goals simp [ZnJ, *]
theorem Zx2 (c:Zl):Zk7 c=(decide (0≤Zl.Place c)&&within (Zl.X6 c) 0 100000&&within (Zl.VE c) (Zl.X6 c) 100000&&within (Zl.Zbe c) 0 100000):=by
  rw [Bool.eq_iff_iff]
  simp only [Zk7,within,Bool.and_eq_true,decide_eq_true_eq]
  omega
theorem Zoh (c:Zl) (hl:(Zl.Name c).length≤4611686018427387904):Zfb c=some (VW (Zl.Name c)&&Zk7 c):=by
  unfold Zfb
  rw [JL _ hl,Zx2]
  simp only [Jj,Bq]
  repeat' split
  all_goals simp [*]
def Ztd (l:List Zl) (m:Int):Prop:=∀ (j:Nat) (c:Zl),(j:Int)<m→l[j]?=some c→Zh8 l j c=true
theorem Ztt {l:List Zl} {k:Nat} {c:Zl} (h:Zh8 l k c=true) (hk:(k:Int)≤1000000):Zl.Source c=-1∨0≤Zl.Source c∧Zl.Source c<k:=by
  unfold Zh8 at h
  simp only [Bool.and_eq_true] at h
  split at h
  · exact .inl (by assumption)
  · have h2:=h.2
    unfold ZAm at h2
    simp only [within,Bool.and_eq_true,decide_eq_true_eq] at h2
    rw [Jr (by omega) (by omega)] at h2
    omega
theorem Ztd.src {l:List Zl} {m:Int} (h:Ztd l m) (hm:m≤1000000):Zw3 l m:=by
  intro j c hj hc
  have:=Ztt (h j c hj hc) (by omega)
  omega
theorem Zqt {l:List Zl} {k:Int} {c:Zl} (h0:0≤k) (h1:k<l.length) (hk:k≤1000) (h:Ztd l k) (hc:l[k.toNat]?=some c) (hs:Zl.Source c<k):Zwt l k:=by
  refine ⟨h0,h1,fun j d hj hd=>?_⟩
  by_cases hjk:(j:Int)<k
  · exact h.src (by omega) j d hjk hd
  · have:j=k.toNat:=by omega
    subst this
    rw [hc] at hd;injection hd with hd;subst hd
    omega
theorem Zqz {s k:Int} (hk0:0≤k) (hk:k≤1000) (h:within s 0 (Wq (k-1))=true):0≤s∧s<k:=by
  rw [within_iff,Jr (by omega) (by omega)] at h
  omega
theorem Zvt (l:List Zl) (k:Int) (c:Zl):Zh8 l k c=(decide (0≤Zl.Place c)&&decide (0≤Zl.X6 c)&&decide (Zl.X6 c≤Zl.VE c)&&decide (Zl.VE c≤100000)&&within (Zl.Zbe c) 0 100000 &&
    (if Zl.Source c=-1 then ZnJ c else within (Zl.Source c) 0 (Wq (k-1))&&within (Zl.Divide c) 1 8&&decide (Zl.Zca c=0)&&decide (Zl.ZdJ c=0)&&decide (Zl.ZdM c=0)&&decide ((Zmo l k).period≤100000))):=rfl
theorem Zpo {l:List Zl} {k:Int} {c:Zl} (h0:0≤k) (h1:k<l.length) (hk:k≤1000) (h:Ztd l k) (hc:l[k.toNat]?=some c):ZgT l k=some (Zh8 l k c):=by
  have hw:within (Zl.Source c) 0 (Wq (k-1))=true→ZhX l k=some (wvI (Zmo l k)):=fun hh=>ZpY (Zqt h0 h1 hk h hc (Zqz h0 hk hh).2)
  unfold ZgT
  rw [XI h0 hc,Zvt]
  clear h0 h1 hk h hc
  simp only [Vo,Bq,Zm8]
  generalize ZnJ c=pr
  generalize Zl.Place c=v1 at *
  generalize Zl.X6 c=v2 at *
  generalize Zl.VE c=v3 at *
  generalize Zl.Zbe c=v4 at *
  generalize Zl.Source c=v5 at *
  generalize Zl.Divide c=v6 at *
  generalize Zl.Zca c=v7 at *
  generalize Zl.ZdJ c=v8 at *
  generalize Zl.ZdM c=v9 at *
  by_cases a1:v1<0
  · have:¬0≤v1:=by omega
    simp [a1,this]
  by_cases a2:v2<0
  · have:¬0≤v2:=by omega
    simp [a1,a2,this]
  by_cases a3:v3<v2
  · have:¬v2≤v3:=by omega
    simp [a1,a2,a3,this]
  by_cases a4:100000<v3
  · have:¬v3≤100000:=by omega
    simp [a1,a2,a3,a4,this]
  rw [if_neg a1,if_neg a2,if_neg a3,if_neg a4,decide_eq_true (show 0≤v1 by omega),decide_eq_true (show 0≤v2 by omega),decide_eq_true (show v2≤v3 by omega),decide_eq_true (show v3≤100000 by omega)]
  cases within v4 0 100000
  · simp
  simp only [if_true,Bool.true_and]
  by_cases a5:v5=-1
  · rw [if_pos a5,if_pos a5]
  rw [if_neg a5,if_neg a5]
  cases hw5:within v5 0 (Wq (k-1))
  · simp
  rw [hw hw5]
  simp only [if_true,Bool.true_and]
  cases within v6 1 8
  · simp
  by_cases a7:v7=0
  · by_cases a8:v8=0
    · by_cases a9:v9=0
      · simp [a7,a8,a9,wvI]
      · simp [a7,a8,a9]
    · simp [a7,a8]
  · simp [a7]
def ZiE (l:List Zl):List (List UInt8):=l.map Zl.Name
def Zmj (l:List Zl):Prop:=l.length≤6∧Ztd l l.length∧X7 (ZiE l) l.length
theorem ZnZ (l:List Zl):Zfy l=some (tr (Zmj l)):=by
  unfold Zfy
  split
  · rename_i h
    rw [ZQ]
    intro hh
    have:=hh.1
    omega
  · rename_i h6
    refine Xy l.length (fun k v=>v.2.1=(k:Int)∧v.1=ZiE (l.take k)∧Ztd l k) _ ⟨rfl,rfl,fun j s hj=>by omega⟩ ?_ ?_
    · rintro k ⟨ns,i,⟨⟩⟩ hk ⟨hi,hns,hS⟩
      simp only at hi hns
      subst hi
      have hx:l[k]?=some l[k]:=List.getElem?_eq_getElem hk
      generalize l[k]=x at hx
      simp only [ZcH,Zu,hx,Bq,show (k:Int)<(l.length:Int) from by omega,if_true,Jr (show (-9223372036854775808:Int)≤(k:Int)+1 by omega) (by omega)]
      rw [Zpo (by omega) (by omega) (by omega) hS (by simpa using hx),Bq]
      split
      · rename_i hok
        have hlen:ns.length=k:=by rw [hns];simp [ZiE];omega
        rw [Zi (by simp only [List.length_singleton];omega)]
        refine .inl ⟨_,rfl,by simp,by rw [hns,Z8 hx];simp [ZiE],fun j d hj hd=>?_⟩
        by_cases e:(j:Int)<k
        · exact hS j d e hd
        · have:j=k:=by omega
          subst this
          rw [hx] at hd;injection hd with hd;subst hd
          exact hok
      · rename_i hok
        right
        rw [ZQ]
        intro hh
        exact hok (hh.2.1 k x (by omega) hx)
    · rintro ⟨ns,i,⟨⟩⟩ ⟨hi,hns,hS⟩
      simp only at hi hns
      subst hi
      rw [List.take_length] at hns
      have hlen:(ZiE l).length=l.length:=by simp [ZiE]
      subst hns
      simp only [ZcH,Int.lt_irrefl,if_false]
      rw [QY _ (by omega),Bq,hlen]
      congr 2
      by_cases hN:X7 (ZiE l) l.length
      · rw [Yb hN,Yb ⟨by omega,hS,hN⟩]
      · rw [ZQ hN,ZQ (fun hh=>hN hh.2.2)]
/-
  Plain laws: the reference's valid clocks; codes; the waves of valid clocks.
-/
def Zzl (l:List Zl):Prop:=∀ c∈l,(Zl.Name c).length≤4611686018427387904
theorem Zjt {l:List Zl} {k:Nat} {c:Zl} (h:l[k]?=some c):(ZiE l)[k]?=some (Zl.Name c):=by simp [ZiE,h]
theorem Zlp {l:List Zl} {k:Nat} {c:Zl} (hk:k<l.length) (h6:l.length≤6) (hc:l[k]?=some c) (hpre:Ztd l k) (hpl:Zk7 c=true) :
    Zv (fun v=>Zaq l (k:Int) c v.1) ((0:Int),()) =
      some (if Zl.Name c∈(ZiE l).take k then .inr false else if Zh8 l k c=true then .inl ((k:Int)+1,()) else .inr false):=by
  refine Xy k (fun m v=>v.1=(m:Int)∧Zl.Name c ∉ (ZiE l).take m) _ ⟨rfl,by simp⟩ ?_ ?_
  · rintro m ⟨i,⟨⟩⟩ hm ⟨hi,hn⟩
    simp only at hi
    subst hi
    have hx:l[m]?=some l[m]:=List.getElem?_eq_getElem (by omega)
    generalize l[m]=x at hx
    have hxn:=Zjt hx
    simp only [Zaq,Zu,hx,Bq,show (m:Int)<(k:Int) from by omega,if_true,Jr (show (-9223372036854775808:Int)≤(m:Int)+1 by omega) (by omega)]
    split
    · rename_i e
      right
      rw [if_pos]
      rw [←e]
      refine List.mem_iff_getElem?.2 ⟨m,?_⟩
      rw [List.getElem?_take,if_pos hm,hxn]
    · rename_i e
      refine .inl ⟨_,rfl,by simp,?_⟩
      rw [Z8 hxn]
      simp only [List.mem_append,List.mem_singleton,not_or]
      exact ⟨hn,fun h=>e h.symm⟩
  · rintro ⟨i,⟨⟩⟩ ⟨hi,hn⟩
    simp only at hi
    subst hi
    have hw:within (Zl.Source c) 0 (Wq ((k:Int)-1))=true→Zju l k=some (wvS (Zmo l k)):=fun hh =>
      Zsf (Zqt (by omega) (by omega) (by omega) hpre (by simpa using hc) (Zqz (by omega) (by omega) hh).2)
    rw [if_neg hn]
    simp only [Zaq,Int.lt_irrefl,if_false,ZlF,Jj,Bq,Jr (show (-9223372036854775808:Int)≤(k:Int)+1 by omega) (by omega)]
    have e:Zh8 l k c=(Zk7 c&&_):=rfl
    rw [e,hpl,Bool.true_and]
    by_cases a1:Zl.Source c=-1
    · rw [if_pos a1,if_pos a1]
      cases ZnJ c<;>simp
    rw [if_neg a1,if_neg a1]
    unfold ZAm
    cases hw5:within (Zl.Source c) 0 (Wq ((k:Int)-1))
    · simp
    rw [hw hw5]
    simp only [if_true,Bool.true_and,Bq]
    cases within (Zl.Divide c) 1 8
    · simp
    by_cases a7:Zl.Zca c=0
    · by_cases a8:Zl.ZdJ c=0
      · by_cases a9:Zl.ZdM c=0
        · by_cases a10:100000<(Zmo l k).period
          · have:¬(Zmo l k).period≤100000:=by omega
            simp [a7,a8,a9,wvS,a10,this]
          · have:(Zmo l k).period≤100000:=by omega
            simp [a7,a8,a9,wvS,a10,this]
        · simp [a7,a8,a9]
      · simp [a7,a8]
    · simp [a7]
theorem Zn7 (l:List Zl) (hn:Zzl l) (hl:l.length≤4611686018427387904):Zfn l=some (tr (Zmj l)):=by
  unfold Zfn
  refine Xy l.length (fun k v=>v.1=(k:Int)∧(0<k→l.length≤6)∧Ztd l k∧X7 (ZiE l) k) _ ⟨rfl,by omega,fun j s hj=>by omega,fun j s hj=>by omega⟩ ?_ ?_
  · rintro k ⟨i,⟨⟩⟩ hk ⟨hi,_,hS,hN⟩
    simp only at hi
    subst hi
    have hx:l[k]?=some l[k]:=List.getElem?_eq_getElem hk
    generalize l[k]=x at hx
    simp only [ZcD,Zu,hx,Bq,show (k:Int)<(l.length:Int) from by omega,if_true]
    split
    · rename_i h6
      have h6':l.length≤6:=by omega
      rw [Zoh _ (hn x (List.mem_of_getElem? hx)),Bq]
      split
      · rename_i hp
        simp only [Bool.and_eq_true] at hp
        rw [Zlp hk h6' hx hS hp.2]
        split
        · rename_i hm
          right
          rw [ZQ]
          exact fun hh=>(hh.2.2 k (Zl.Name x) hk (Zjt hx)).2 hm
        · rename_i hm
          split
          · rename_i hok
            refine .inl ⟨_,rfl,by simp,fun _=>h6',fun j d hj hd=>?_,fun j s hj hs=>?_⟩
            · by_cases e:(j:Int)<k
              · exact hS j d e hd
              · have:j=k:=by omega
                subst this
                rw [hx] at hd;injection hd with hd;subst hd
                exact hok
            · by_cases e:j<k
              · exact hN j s e hs
              · have:j=k:=by omega
                subst this
                rw [Zjt hx] at hs;injection hs with hs;subst hs
                exact ⟨hp.1,hm⟩
          · rename_i hok
            right
            rw [ZQ]
            exact fun hh=>hok (hh.2.1 k x (by omega) hx)
      · rename_i hp
        right
        rw [ZQ]
        intro hh
        have h1:=(hh.2.2 k (Zl.Name x) hk (Zjt hx)).1
        have h2:=hh.2.1 k x (by omega) hx
        unfold Zh8 at h2
        simp only [Bool.and_eq_true] at h2
        exact hp (by rw [h1,h2.1];rfl)
    · rename_i h6
      right
      rw [ZQ (fun hh=>h6 (by have:=hh.1;omega))]
      simp [h6]
  · rintro ⟨i,⟨⟩⟩ ⟨hi,_,hS,hN⟩
    simp only at hi
    subst hi
    simp only [ZcD,Int.lt_irrefl,if_false]
    by_cases h6:(l.length:Int)≤6
    · rw [Yb ⟨by omega,hS,hN⟩,decide_eq_true h6]
    · rw [ZQ (fun hh=>h6 (by have:=hh.1;omega)),decide_eq_false h6]
/-
  Plain laws: lists of numbers, tables.
-/
theorem ZdR {a b:Bool} (h:a=true↔b=true):a=b:=by cases a<;>cases b<;>simp_all
theorem YB {P Q:Prop} (h:P↔Q):tr P=tr Q:=by rw [propext h]
def Inc (l:List Int):Prop:=∀ (k:Nat) (x y:Int),l[k]?=some x→l[k+1]?=some y→x<y
def ZiJ (l:List Int) (lo hi:Int):Prop:=∀ x∈l,lo≤x∧x≤hi
theorem ZlQ (l:List Int) (lo hi:Int):allIn l lo hi=true↔ZiJ l lo hi:=by
  unfold allIn ZiJ
  rw [List.all_eq_true]
  simp only [within_iff]
theorem Q6 (l:List Int):YV l=some (l.length:Int):=rfl
theorem Zb5 (l:List Int) (hl:Len l):Vs l=some (tr (Inc l)):=by
  unfold Vs
  have h4:l.length≤4611686018427387904:=hl
  by_cases h0:l.length=0
  · have:l=[]:=List.eq_nil_of_length_eq_zero h0
    subst this
    rw [Vr (r:=true) (by rfl)]
    have h0:Inc []:=fun k x y h=>by simp at h
    rw [Yb h0]
  have:=ZuX (ρ:=Bool) 1 l.length (by omega) h4 (fun k=>∀ x y,l[k-1]?=some x→l[k]?=some y→x<y) (step:=fun v=>Qd l v.1) (bad:=false) (good:=true)
    (fun k h1 h2 _=>by
      obtain ⟨x,hx⟩:∃ x,l[k-1]?=some x:=⟨_,List.getElem?_eq_getElem (by omega)⟩
      obtain ⟨y,hy⟩:∃ y,l[k]?=some y:=⟨_,List.getElem?_eq_getElem h2⟩
      have e1:Wq ((k:Int)-1)=((k-1:Nat):Int):=by rw [Jr (by omega) (by omega)];omega
      simp only [Qd,show (k:Int)<(l.length:Int) from by omega,if_true,e1,Zu,hx,hy,Bq]
      refine ⟨fun h=>?_,fun h=>?_⟩
      · have:=h x y rfl rfl
        rw [if_neg (by omega)]
      · rw [if_pos]
        rcases Int.lt_or_le x y with h' | h'
        · exact absurd (fun a b ha hb=>by injection ha with ha;injection hb with hb;subst ha;subst hb;exact h') h
        · exact h')
    (fun _=>by simp only [Qd,Int.lt_irrefl,if_false])
  refine (show Zv (fun v=>Qd l v.1) ((1:Int),())=_ from this).trans ?_
  rw [Zl5]
  congr 1
  refine YB ⟨fun h k x y hx hy=>?_,fun h j h1 h2 x y hx hy=>?_⟩
  · exact h (k+1) (by omega) (List.getElem?_eq_some_iff.1 hy).1 x y (by simpa using hx) hy
  · exact h (j-1) x y hx (by rw [show j-1+1=j by omega];exact hy)
def ZfW (l:List Int):Prop:=1≤l.length∧l.length≤4∧ZiJ l 0 100000∧Inc l
theorem Zkq (l:List Int) (hl:Len l):ZfY l=some (tr (ZfW l)):=by
  unfold ZfY
  rw [Q6,Bq,Vo,Bq,ZbS l _ _ hl,Bq,Zb5 l hl,Bq]
  have e:tr (ZfW l)=(within (l.length:Int) 1 4&&allIn l 0 100000&&tr (Inc l)):=by
    refine ZlV ?_
    simp only [Bool.and_eq_true,within_iff,ZlQ,Y9,ZfW]
    exact ⟨fun ⟨⟨⟨a,b⟩,c⟩,d⟩=>⟨by omega,by omega,c,d⟩,fun ⟨a,b,c,d⟩=>⟨⟨⟨by omega,by omega⟩,c⟩,d⟩⟩
  rw [e]
  cases within (l.length:Int) 1 4<;>cases allIn l 0 100000<;>cases tr (Inc l)<;>rfl
theorem Zi8 (l:List Int) (hl:Len l):ZeG l=some (tr (ZfW l)):=by
  unfold ZeG
  have h4:l.length≤4611686018427387904:=hl
  rw [Qs hl (fun k x=>(0≤x∧x≤100000)∧(0<k→∀ y,l[k-1]?=some y→y<x)) (bad:=false) (good:=decide (1≤l.length∧l.length≤4))
    (fun k x hx hk _=>by
      simp only [ZcX,show (k:Int)<(l.length:Int) from by omega,if_true,Zu,hx,Bq,Jj]
      by_cases hw:within x 0 100000=true
      · rw [if_pos hw]
        by_cases h0:0<k
        · obtain ⟨y,hy⟩:∃ y,l[k-1]?=some y:=⟨_,List.getElem?_eq_getElem (by omega)⟩
          have e1:Wq ((k:Int)-1)=((k-1:Nat):Int):=by rw [Jr (by omega) (by omega)];omega
          rw [if_pos (by omega),e1,Zu,hy,Bq]
          refine ⟨fun h=>?_,fun h=>?_⟩
          · rw [if_neg (by have:=h.2 h0 y rfl;omega)]
          · rw [if_pos]
            rcases Int.lt_or_le y x with h' | h'
            · exact absurd ⟨(within_iff _ _ _).1 hw,fun _ z hz=>by injection hz with hz;subst hz;exact h'⟩ h
            · exact h'
        · rw [if_neg (by omega)]
          exact ⟨fun _=>rfl,fun h=>absurd ⟨(within_iff _ _ _).1 hw,fun h'=>absurd h' h0⟩ h⟩
      · rw [if_neg hw]
        exact ⟨fun h=>absurd ((within_iff _ _ _).2 h.1) hw,fun _=>rfl⟩)
    (fun _=>by
      simp only [ZcX,Int.lt_irrefl,if_false]
      by_cases h1:1≤l.length
      · rw [if_pos (by omega)]
        congr 2
        rw [decide_eq_decide];omega
      · rw [if_neg (by omega)]
        simp [h1])]
  congr 1
  refine ZdR ?_
  rw [Y9]
  by_cases h:ZeY l (fun k x=>(0≤x∧x≤100000)∧(0<k→∀ y,l[k-1]?=some y→y<x))
  · rw [YS h,decide_eq_true_eq]
    constructor
    · rintro ⟨h1,h2⟩
      refine ⟨h1,h2,fun x hx=>?_,fun k x y hx hy=>?_⟩
      · obtain ⟨k,hk⟩:=List.mem_iff_getElem?.1 hx
        exact (h k x hk).1
      · exact (h (k+1) y hy).2 (by omega) x (by simpa using hx)
    · intro hh
      exact ⟨hh.1,hh.2.1⟩
  · rw [YH h]
    constructor
    · intro hh;cases hh
    · intro hh
      refine absurd ?_ h
      intro k x hk
      refine ⟨hh.2.2.1 x (List.mem_of_getElem? hk),fun h0 y hy=>?_⟩
      exact hh.2.2.2 (k-1) y x hy (by rw [show k-1+1=k by omega];exact hk)
def Zd8 (t:ZA):Prop:=ZfW (ZA.Zg6 t)∧ZfW (ZA.Loads t)∧(ZA.Values t).length=(ZA.Zg6 t).length*(ZA.Loads t).length∧ZiJ (ZA.Values t) (-1000000) 1000000
def ZAu (t:ZA):Prop:=Len (ZA.Zg6 t)∧Len (ZA.Loads t)∧Len (ZA.Values t)
theorem ZfW.mul {a b:List Int} (ha:ZfW a) (hb:ZfW b):a.length*b.length≤16:=by
  have h1:=ha.2.1
  have h2:=hb.2.1
  calc a.length*b.length≤4*4:=Nat.mul_le_mul h1 h2
    _=16:=rfl
theorem Zuu {a b:List Int} (ha:ZfW a) (hb:ZfW b):Wq ((a.length:Int)*(b.length:Int))=((a.length*b.length:Nat):Int):=by
  have:=ha.mul hb
  have e:(a.length:Int)*(b.length:Int)=((a.length*b.length:Nat):Int):=by simp
  rw [e,Jr (by omega) (by omega)]
theorem ZoX (t:ZA) (h:ZAu t):ZgD t=some (tr (Zd8 t)):=by
  unfold ZgD
  rw [Zkq _ h.1,Bq]
  by_cases h1:ZfW (ZA.Zg6 t)
  · rw [if_pos (Yb h1),Zkq _ h.2.1,Bq]
    by_cases h2:ZfW (ZA.Loads t)
    · rw [if_pos (Yb h2),Zuu h1 h2]
      by_cases h3:(ZA.Values t).length=(ZA.Zg6 t).length*(ZA.Loads t).length
      · rw [if_pos (by rw [h3]),ZbS _ _ _ h.2.2,Bq]
        congr 1
        refine ZdR ?_
        rw [ZlQ,Y9]
        exact ⟨fun h4=>⟨h1,h2,h3,h4⟩,fun h4=>h4.2.2.2⟩
      · rw [if_neg (by omega),ZQ (fun hh=>h3 hh.2.2.1)]
    · rw [if_neg (by rw [ZQ h2];simp),ZQ (fun hh=>h2 hh.2.1)]
  · rw [if_neg (by rw [ZQ h1];simp),ZQ (fun hh=>h1 hh.1)]
theorem ZpH (t:ZA) (h:ZAu t):Zgs t=some (tr (Zd8 t)):=by
  unfold Zgs
  rw [Zi8 _ h.1,Bq]
  by_cases h1:ZfW (ZA.Zg6 t)
  · rw [if_pos (Yb h1),Zi8 _ h.2.1,Bq]
    by_cases h2:ZfW (ZA.Loads t)
    · rw [if_pos (Yb h2),Zuu h1 h2]
      by_cases h3:(ZA.Values t).length=(ZA.Zg6 t).length*(ZA.Loads t).length
      · rw [if_pos (by rw [h3]),Qs h.2.2 (fun k x=>-1000000≤x∧x≤1000000) (bad:=false) (good:=true)
          (fun k x hx hk _=>by
            simp only [Zdz,show (k:Int)<((ZA.Values t).length:Int) from by omega,if_true,Zu,hx,Bq,Jj,within_iff]
            exact ⟨fun hh=>by rw [if_pos hh],fun hh=>by rw [if_neg hh]⟩)
          (fun _=>by simp only [Zdz,Int.lt_irrefl,if_false]),Zl5]
        congr 1
        refine YB ⟨fun h4=>⟨h1,h2,h3,fun x hx=>?_⟩,fun h4 k x hx=>h4.2.2.2 x (List.mem_of_getElem? hx)⟩
        obtain ⟨k,hk⟩:=List.mem_iff_getElem?.1 hx
        exact h4 k x hk
      · rw [if_neg (by omega),ZQ (fun hh=>h3 hh.2.2.1)]
    · rw [if_neg (by rw [ZQ h2];simp),ZQ (fun hh=>h2 hh.2.1)]
  · rw [if_neg (by rw [ZQ h1];simp),ZQ (fun hh=>h1 hh.1)]
theorem Zsc (x:Int) (l:List Int) (hl:Len (x::l)):Vg (x::l)=some (l.foldl min x):=by
  unfold Vg
  have h4:(x::l).length≤4611686018427387904:=hl
  have e1:¬(((x::l).length:Int)<1):=by simp only [List.length_cons];omega
  have e2:atI (x::l) (0:Int)=some x:=rfl
  rw [if_neg e1,e2,Bq]
  refine Xy l.length (fun k v=>v.1=(l.take k).foldl min x∧v.2.1=(((k+1:Nat)):Int)) _ ⟨by simp,rfl⟩ ?_ ?_
  · rintro k ⟨m,i,⟨⟩⟩ hk ⟨hm,hi⟩
    simp only at hm hi
    subst hm;subst hi
    have hx:l[k]?=some l[k]:=List.getElem?_eq_getElem hk
    have hx1:(x::l)[k+1]?=some l[k]:=by simp
    simp only [QZ,Zu,hx1,Bq,show ((k+1:Nat):Int)<((x::l).length:Int) from by simp;omega,if_true]
    refine .inl ⟨_,rfl,?_,?_⟩
    · rw [Z8 hx,List.foldl_append];rfl
    · simp only [List.length_cons] at h4
      show Wq (((k+1:Nat):Int)+1)=((k+1+1:Nat):Int)
      rw [Jr (by omega) (by omega)];omega
  · rintro ⟨m,i,⟨⟩⟩ ⟨hm,hi⟩
    simp only at hm hi
    subst hm;subst hi
    rw [List.take_length]
    simp only [QZ,show ¬(((l.length+1:Nat):Int)<((x::l).length:Int)) from by simp,if_false]
theorem ZlB (x:Int) (l:List Int):l.foldl min x<0↔x<0∨∃ y∈l,y<0:=by
  induction l generalizing x with
  | nil=>simp
  | cons y r ih =>
    simp only [List.foldl_cons,ih,List.mem_cons,exists_eq_or_imp]
    rw [show min x y<0↔x<0∨y<0 by omega,or_assoc]
def ZeD (l:List ZA) (pos:Bool):Prop:=l.length=2∧∀ t∈l,Zd8 t∧(pos=true→∀ v∈ZA.Values t,0≤v)
theorem Zd8.some {t:ZA} (h:Zd8 t):∃ x l,ZA.Values t=x::l:=by
  have h1:=h.1.1
  have h2:=h.2.1.1
  have h3:=h.2.2.1
  have:1*1≤(ZA.Zg6 t).length*(ZA.Loads t).length:=Nat.mul_le_mul h1 h2
  cases hv:ZA.Values t with
  | nil=>rw [hv] at h3;simp at h3;omega
  | cons x l=>exact ⟨x,l,rfl⟩
theorem ZjD (t:ZA) (pos:Bool) (h:ZAu t):Vy t pos=some (! tr (Zd8 t∧(pos=true→∀ v∈ZA.Values t,0≤v))):=by
  unfold Vy
  rw [ZoX _ h,Bq]
  by_cases h1:Zd8 t
  · rw [if_pos (Yb h1)]
    cases pos
    · rw [if_neg (by simp),Yb ⟨h1,fun e=>by cases e⟩];rfl
    · obtain ⟨x,l,hv⟩:=h1.some
      have hlen:=h.2.2
      rw [if_pos rfl,hv]
      rw [hv] at hlen
      rw [Zsc x l hlen,Bq]
      congr 1
      refine ZdR ?_
      rw [decide_eq_true_eq,ZlB,Bool.not_eq_true',←Bool.not_eq_true,Y9]
      constructor
      · rintro (hh | ⟨y,hy,hh⟩) ⟨_,hall⟩
        · have:=hall rfl x (by simp);omega
        · have:=hall rfl y (by simp [hy]);omega
      · intro hh
        apply Classical.byContradiction
        intro hn
        refine hh ⟨h1,fun _ v hvm=>?_⟩
        rcases List.mem_cons.1 hvm with rfl | hvm
        · exact Int.not_lt.1 fun hlt=>hn (.inl hlt)
        · exact Int.not_lt.1 fun hlt=>hn (.inr ⟨v,hvm,hlt⟩)
  · rw [if_neg (by rw [ZQ h1];simp),ZQ (fun hh=>h1 hh.1)];rfl
def ZzM (l:List ZA):Prop:=Len l∧∀ t∈l,ZAu t
theorem ZdO (l:List ZA) (pos:Bool) (h:ZzM l):ZaI l pos=some (tr (ZeD l pos)):=by
  unfold ZaI
  by_cases h2:l.length=2
  · rw [if_pos (by omega),X0 h.1 (fun t=>! tr (Zd8 t∧(pos=true→∀ v∈ZA.Values t,0≤v))) (fun t ht=>ZjD t pos (h.2 t ht)),Bq]
    congr 1
    refine ZdR ?_
    rw [Bool.not_eq_true',List.any_eq_false,Y9]
    simp only [Bool.not_eq_true',Bool.not_eq_false,Y9,Bool.not_eq_true]
    exact ⟨fun hh=>⟨h2,hh⟩,fun hh=>hh.2⟩
  · rw [if_neg (by omega),ZQ (fun hh=>h2 hh.1)]
/-
  Plain laws: pins, arcs, cells.
-/
theorem ZgW {α τ ρ:Type} {l:List α} (pk:Nat→τ) (P:Nat→α→Prop) {step:τ→Option (τ ⊕ ρ)} {bad good:ρ}
    (hs:∀ (k:Nat) (x:α),l[k]?=some x→k<l.length→(∀ (j:Nat) (y:α),j<k→l[j]?=some y→P j y)→(P k x→step (pk k)=some (.inl (pk (k+1))))∧(¬P k x→step (pk k)=some (.inr bad)))
    (hx:ZeY l P→step (pk l.length)=some (.inr good)):Zv step (pk 0)=some (sel (ZeY l P) good bad):=by
  refine Xy l.length (fun k v=>v=pk k∧∀ (j:Nat) (y:α),j<k→l[j]?=some y→P j y) _ ⟨rfl,fun j y hj=>by omega⟩ ?_ ?_
  · rintro k v hk ⟨rfl,hS⟩
    have hx:l[k]?=some l[k]:=List.getElem?_eq_getElem hk
    obtain ⟨h1,h2⟩:=hs k _ hx hk hS
    by_cases hP:P k l[k]
    · refine .inl ⟨_,h1 hP,rfl,fun j y hj hy=>?_⟩
      by_cases hjk:j<k
      · exact hS j y hjk hy
      · have:j=k:=by omega
        subst this
        rw [hx] at hy;injection hy with hy;subst hy
        exact hP
    · right
      rw [h2 hP,YH (fun h=>hP (h k _ hx))]
  · rintro v ⟨rfl,hS⟩
    have hA:ZeY l P:=fun k x hk=>hS k x (List.getElem?_eq_some_iff.1 hk).1 hk
    rw [hx hA,YS hA]
theorem Yk {α τ ρ:Type} {l:List α} (pk:Nat→τ) {step:τ→Option (τ ⊕ ρ)} {good:ρ}
    (hs:∀ (k:Nat) (x:α),l[k]?=some x→k<l.length→step (pk k)=some (.inl (pk (k+1)))) (hx:step (pk l.length)=some (.inr good)):Zv step (pk 0)=some good:=by
  have:=ZgW (l:=l) pk (fun _ _=>True) (step:=step) (bad:=good) (good:=good) (fun k x h1 h2 _=>⟨fun _=>hs k x h1 h2,fun h=>absurd trivial h⟩) (fun _=>hx)
  rw [this,YS (show ZeY l (fun _ _=>True) from fun _ _ _=>trivial)]
theorem ZpP {ρ:Type} (n:Nat) (hn:n≤4611686018427387904) (P:Nat→Prop) {step:Int×Unit→Option ((Int×Unit) ⊕ ρ)} {bad good:ρ}
    (hs:∀ k:Nat,k<n→(P k→step ((k:Int),())=some (.inl (Wq ((k:Int)+1),())))∧(¬P k→step ((k:Int),())=some (.inr bad)))
    (hx:(∀ j,j<n→P j)→step ((n:Int),())=some (.inr good)):Zv step ((0:Int),())=some (sel (∀ j,j<n→P j) good bad):=by
  have:=ZuX (ρ:=ρ) 0 n (by omega) hn P (step:=step) (bad:=bad) (good:=good) (fun k _ h _=>hs k h) (fun h=>hx (fun j hj=>h j (by omega) hj))
  refine (show Zv step ((0:Int),())=_ from this).trans ?_
  congr 1
  have e:(∀ j,0≤j→j<n→P j)↔(∀ j,j<n→P j):=⟨fun h j hj=>h j (by omega) hj,fun h j _ hj=>h j hj⟩
  rw [propext e]
theorem YL {t:Ty} {l:List t.den} (h:sm (.sl t) l):Len l:=by
  have h1:(l.length:Int)≤1048576:=h.1
  show l.length≤4611686018427387904
  omega
theorem ZfS {s:List UInt8} (h:sm .str s):s.length≤4611686018427387904:=by
  have h1:(s.length:Int)≤1048576:=h
  omega
theorem ZqL {t:Ty} {l:List t.den} (h:sm (.sl t) l) {x:t.den} (hx:x∈l):sm t x:=h.2 x hx
theorem QV {t:Ty} {l:List t.den} (h:sm (.sl t) l) {k:Nat} {x:t.den} (hx:l[k]?=some x):sm t x:=h.2 x (List.mem_of_getElem? hx)
theorem Zp {t:Ty} {l:List t.den} (h:sm (.sl t) l):l.length≤1048576:=by
  have h1:(l.length:Int)≤1048576:=h.1
  omega
theorem ZvF {t:ZA} (h:sm XE t):ZAu t:=⟨YL (t:=.int .i64) h.1,YL (t:=.int .i64) h.2.1,YL (t:=.int .i64) h.2.2.1⟩
theorem Zig {l:List ZA} (h:sm (.sl XE) l):ZzM l:=⟨YL h,fun t ht=>ZvF (ZqL h ht)⟩
theorem Zk9 (t:ZA) (h:ZAu t):∃ r,Zcr t=some r∧(Zd8 t→r.2=0∧(r.1.1<0↔∃ v∈ZA.Values t,v<0))∧(¬Zd8 t→r.2=1):=by
  unfold Zcr
  rw [ZpH _ h,Bq]
  by_cases h1:Zd8 t
  · rw [if_pos (Yb h1)]
    obtain ⟨x,l,hv⟩:=h1.some
    have h4:(x::l).length≤4611686018427387904:=by rw [←hv];exact h.2.2
    have e2:atI (ZA.Values t) (0:Int)=some x:=by rw [hv];rfl
    rw [e2,Bq]
    have:=Yk (l:=l) (ρ:=YQ×Int) (fun k=>((((k+1:Nat)):Int),(l.take k).foldl min x,(l.take k).foldl max x,())) (step:=fun v=>VP t v.1 v.2.1 v.2.2.1) (good:=((l.foldl min x,l.foldl max x,()),0))
      (fun k y hy hk=>by
        have hx1:(x::l)[k+1]?=some y:=by simpa using hy
        simp only [List.length_cons] at h4
        simp only [VP,hv,Zu,hx1,Bq,show ((k+1:Nat):Int)<((x::l).length:Int) from by simp;omega,if_true]
        rw [Z8 hy,List.foldl_append,List.foldl_append,Jr (by omega) (by omega)]
        rfl)
      (by
        simp only [VP,hv,List.take_length,show ¬(((l.length+1:Nat):Int)<((x::l).length:Int)) from by simp,if_false])
    refine ⟨_,this,fun _=>⟨rfl,?_⟩,fun hn=>absurd h1 hn⟩
    rw [hv]
    refine (ZlB x l).trans ?_
    simp
  · rw [if_neg (by rw [ZQ h1];simp)]
    exact ⟨_,rfl,fun hn=>absurd hn h1,fun _=>rfl⟩
theorem Zd1 (l:List ZA) (pos:Bool) (h:ZzM l):YK l pos=some (tr (ZeD l pos)):=by
  unfold YK
  by_cases h2:l.length=2
  · rw [if_pos (by omega),Qs h.1 (fun k t=>Zd8 t∧(pos=true→∀ v∈ZA.Values t,0≤v)) (bad:=false) (good:=true)
      (fun k t hx hk _=>by
        obtain ⟨r,hr,hr1,hr2⟩:=Zk9 t (h.2 t (List.mem_of_getElem? hx))
        simp only [Zb8,show (k:Int)<2 from by omega,if_true,Zu,hx,Bq,hr]
        by_cases ht:Zd8 t
        · obtain ⟨e1,e2⟩:=hr1 ht
          rw [if_pos e1]
          cases pos
          · simp only [Bool.false_eq_true,if_false]
            exact ⟨fun _=>trivial,fun hn=>absurd ⟨ht,fun e=>by cases e⟩ hn⟩
          · simp only [if_true]
            refine ⟨fun hh=>?_,fun hn=>?_⟩
            · rw [if_neg]
              intro hlt
              obtain ⟨v,hv,hv0⟩:=e2.1 hlt
              have:=hh.2 trivial v hv
              omega
            · rw [if_pos]
              apply Classical.byContradiction
              intro hlt
              refine hn ⟨ht,fun _ v hv=>?_⟩
              exact Int.not_lt.1 fun hv0=>hlt (e2.2 ⟨v,hv,hv0⟩)
        · have e1:=hr2 ht
          rw [if_neg (by rw [e1];decide)]
          exact ⟨fun hh=>absurd hh.1 ht,fun _=>rfl⟩)
      (fun _=>by simp only [Zb8,h2];rfl),Zl5]
    congr 1
    refine YB ⟨fun hh=>⟨h2,fun t ht=>?_⟩,fun hh k t hk=>hh.2 t (List.mem_of_getElem? hk)⟩
    obtain ⟨k,hk⟩:=List.mem_iff_getElem?.1 ht
    exact hh k t hk
  · rw [if_neg (by omega),ZQ (fun hh=>h2 hh.1)]
def ZeH (l:List YP):List (List UInt8):=l.map YP.Name
def Zob (l:List YP):Nat:=l.countP (fun p=>YP.Clock p)
def Zsx (n k:Nat) (p:YP):Prop:=(0≤YP.Cap p∧YP.Cap p≤500)∧(k+1=n→YP.Dir p=2∧YP.Cap p=0∧YP.Clock p=false)∧(k+1<n→YP.Dir p=1)
def Zkc (l:List YP):Prop:=2≤l.length∧l.length≤5∧X7 (ZeH l) l.length∧ZeY l (Zsx l.length)
theorem Zpj (l:List YP) (h:sm (.sl ZgP) l):ZgY l=some (tr (Zkc l)):=by
  unfold ZgY
  have hs:=Zp h
  have:=ZgW (l:=l) (ρ:=Bool) (fun k=>((ZeH l).take k,(k:Int),())) (Zsx l.length) (step:=fun v=>Jk l v.1 v.2.1) (bad:=false) (good:=tr (2≤l.length∧l.length≤5∧X7 (ZeH l) l.length))
    (fun k p hx hk _=>by
      have hn:(ZeH l)[k]?=some (YP.Name p):=by simp [ZeH,hx]
      have e1:Wq ((l.length:Int)-1)=((l.length-1:Nat):Int):=by rw [Jr (by omega) (by omega)];omega
      simp only [Jk,show (k:Int)<(l.length:Int) from by omega,if_true,Zu,hx,Bq,e1]
      rw [Zi (by simp only [List.length_take,List.length_singleton,ZeH,List.length_map];omega),Z8 hn,Jr (by omega) (by omega)]
      unfold Zsx
      by_cases hlast:(k:Int)=((l.length-1:Nat):Int)
      · rw [if_pos hlast]
        have hk1:k+1=l.length:=by omega
        constructor
        · rintro ⟨_,h2,_⟩
          obtain ⟨a,b,c⟩:=h2 hk1
          rw [if_pos a,if_pos b,if_neg (by rw [c];simp)]
          rfl
        · intro hh
          split
          · split
            · split
              · rfl
              · rename_i a b c
                exact absurd ⟨by omega,fun _=>⟨a,b,by simpa using c⟩,fun h'=>by omega⟩ hh
            · rfl
          · rfl
      · rw [if_neg hlast,Vo]
        have hk1:k+1<l.length:=by omega
        simp only [Bq,within_iff]
        constructor
        · rintro ⟨h1,_,h3⟩
          rw [if_pos (h3 hk1),if_pos h1]
          rfl
        · intro hh
          split
          · split
            · rename_i a b
              exact absurd ⟨b,fun h'=>by omega,fun _=>a⟩ hh
            · rfl
          · rfl)
    (fun hA=>by
      have e0:(ZeH l).take l.length=ZeH l:=by rw [show l.length=(ZeH l).length by simp [ZeH],List.take_length]
      simp only [Jk,Int.lt_irrefl,if_false,e0,Vo,Bq,show JA l=some (l.length:Int) from rfl]
      have hlen:(ZeH l).length=l.length:=by simp [ZeH]
      by_cases hw:within (l.length:Int) 2 5=true
      · rw [if_pos hw,QY _ (by rw [hlen];omega),Bq,hlen]
        rw [within_iff] at hw
        congr 2
        exact YB ⟨fun hh=>⟨by omega,by omega,hh⟩,fun hh=>hh.2.2⟩
      · rw [if_neg hw,ZQ]
        intro hh
        exact hw ((within_iff _ _ _).2 (by omega)))
  refine (show Zv (fun v=>Jk l v.1 v.2.1) (([]:List (List UInt8)),(0:Int),())=_ from this).trans ?_
  congr 1
  refine ZdR ?_
  rw [Y9]
  by_cases hA:ZeY l (Zsx l.length)
  · rw [YS hA,Y9]
    exact ⟨fun hh=>⟨hh.1,hh.2.1,hh.2.2,hA⟩,fun hh=>⟨hh.1,hh.2.1,hh.2.2.1⟩⟩
  · rw [YH hA]
    exact ⟨fun hh=>(by cases hh),fun hh=>absurd hh.2.2.2 hA⟩
/-
  Plain laws: pins by the reference; arcs.
-/
theorem ZnN {n:Nat} (h:n≤1048576) (h1:1≤n):Wq ((n:Int)-1)=((n-1:Nat):Int):=by rw [Jr (by omega) (by omega)];omega
theorem Xx {n:Nat} (h:n≤1048576):Wq ((n:Int)+1)=((n+1:Nat):Int):=by rw [Jr (by omega) (by omega)];omega
theorem Zka {l:List YP} {k:Nat} {s:List UInt8}:s ∉ (ZeH l).take k↔∀ (j:Nat) (q:YP),j<k→l[j]?=some q→YP.Name q≠s:=by
  constructor
  · intro h j q hj hq e
    refine h (List.mem_iff_getElem?.2 ⟨j,?_⟩)
    rw [List.getElem?_take,if_pos hj]
    simp [ZeH,hq,e]
  · intro h hm
    obtain ⟨j,hj⟩:=List.mem_iff_getElem?.1 hm
    rw [List.getElem?_take] at hj
    split at hj
    · rename_i hjk
      simp only [ZeH,List.getElem?_map,Option.map_eq_some_iff] at hj
      obtain ⟨q,hq,e⟩:=hj
      exact h j q hjk hq e
    · cases hj
theorem ZpD (c:Zm) (h:sm (.sl ZgP) (Zm.Yw c)):Zgy c=some (sel (Zkc (Zm.Yw c)) ((Zob (Zm.Yw c):Int),true) ((0:Int),false)):=by
  unfold Zgy
  have hs:=Zp h
  by_cases h2:((Zm.Yw c).length:Int)<2
  · rw [if_pos h2,YH (fun hh=>by have:=hh.1;omega)]
  by_cases h5:(5:Int)<((Zm.Yw c).length:Int)
  · rw [if_neg h2,if_pos h5,YH (fun hh=>by have:=hh.2.1;omega)]
  rw [if_neg h2,if_neg h5]
  have e1:Wq (((Zm.Yw c).length:Int)-1)=(((Zm.Yw c).length-1:Nat):Int):=ZnN hs (by omega)
  have:=ZgW (l:=Zm.Yw c) (ρ:=Int×Bool) (fun k=>((((Zm.Yw c).take k).countP (fun p=>YP.Clock p):Int),(k:Int),()))
    (fun k p=>(VW (YP.Name p)=true∧∀ (j:Nat) (q:YP),j<k→(Zm.Yw c)[j]?=some q→YP.Name q≠YP.Name p)∧Zsx (Zm.Yw c).length k p) (step:=fun v=>Ji c v.1 v.2.1) (bad:=((0:Int),false)) (good:=((Zob (Zm.Yw c):Int),true))
    (fun k p hx hk _=>by
      have hcnt:((Zm.Yw c).take k).countP (fun p=>YP.Clock p)≤5:=by
        have h1:=List.countP_le_length (p:=fun p=>YP.Clock p) (l:=(Zm.Yw c).take k)
        rw [List.length_take] at h1;omega
      have hnext:((Zm.Yw c).take (k+1)).countP (fun p=>YP.Clock p)=((Zm.Yw c).take k).countP (fun p=>YP.Clock p)+if YP.Clock p=true then 1 else 0:=by
        rw [Z8 hx,List.countP_append];simp [List.countP_cons]
      have hname:(YP.Name p).length≤4611686018427387904:=ZfS (QV h hx).1
      have rest:∀ (v:Int),QS c v (k:Int) p (k:Int)=sel (VW (YP.Name p)=true∧Zsx (Zm.Yw c).length k p) (some (Sum.inr (Sum.inl (if YP.Clock p=true then Wq (v+1) else v,((k+1:Nat):Int),())))) (some (Sum.inr (Sum.inr (0,false)))):=by
        intro v
        simp only [QS,Int.lt_irrefl,if_false,JL _ hname,Jj,Bq,e1,Xx (show k≤1048576 by omega),within_iff]
        unfold Zsx
        by_cases hn:VW (YP.Name p)=true
        · by_cases hcap:0≤YP.Cap p∧YP.Cap p≤500
          · by_cases hlast:k+1=(Zm.Yw c).length
            · have e2:(k:Int)=(((Zm.Yw c).length-1:Nat):Int):=by omega
              have e3:¬((k:Int)<(((Zm.Yw c).length-1:Nat):Int)):=by omega
              have e4:¬(k+1<(Zm.Yw c).length):=by omega
              rw [if_pos hn,if_pos hcap,if_pos e2]
              by_cases a:YP.Dir p=2
              · by_cases b:YP.Cap p=0
                · by_cases d:YP.Clock p=true
                  · rw [if_pos a,if_pos b,if_pos d,YH]
                    rintro ⟨_,_,h',_⟩
                    have:=(h' hlast).2.2
                    rw [d] at this;cases this
                  · rw [if_pos a,if_pos b,if_neg d,if_neg e3,if_neg d,YS ⟨hn,hcap,fun _=>⟨a,b,by simpa using d⟩,fun h'=>absurd h' e4⟩]
                    simp [d]
                · rw [if_pos a,if_neg b,YH]
                  rintro ⟨_,_,h',_⟩
                  exact b (h' hlast).2.1
              · rw [if_neg a,YH]
                rintro ⟨_,_,h',_⟩
                exact a (h' hlast).1
            · have e2:¬(k:Int)=(((Zm.Yw c).length-1:Nat):Int):=by omega
              have e3:(k:Int)<(((Zm.Yw c).length-1:Nat):Int):=by omega
              have e4:k+1<(Zm.Yw c).length:=by omega
              rw [if_pos hn,if_pos hcap,if_neg e2,if_pos e3]
              by_cases a:YP.Dir p=1
              · rw [if_pos a,YS ⟨hn,hcap,fun h'=>absurd h' hlast,fun _=>a⟩]
                by_cases d:YP.Clock p=true
                · rw [if_pos d,if_pos d]
                · rw [if_neg d,if_neg d]
              · rw [if_neg a,YH]
                rintro ⟨_,_,_,h'⟩
                exact a (h' e4)
          · rw [if_pos hn,if_neg hcap,YH (fun hh=>hcap hh.2.1)]
        · rw [if_neg hn,YH (fun hh=>hn hh.1)]
      have inner:∀ (v:Int) (good:(Int×Int×Unit) ⊕ (Int×Bool)),((∀ (j:Nat) (q:YP),j<k→(Zm.Yw c)[j]?=some q→YP.Name q≠YP.Name p)→QS c v (k:Int) p (k:Int)=some (.inr good))→
          Zv (fun v'=>QS c v (k:Int) p v'.1) ((0:Int),())=some (sel (∀ j,j<k→∀ q,(Zm.Yw c)[j]?=some q→YP.Name q≠YP.Name p) good (.inr (0,false))):=by
        intro v good hg
        refine ZpP k (by omega) (fun j=>∀ q,(Zm.Yw c)[j]?=some q→YP.Name q≠YP.Name p) (fun j hj=>?_) (fun hh=>hg (fun j q hj hq=>hh j hj q hq))
        obtain ⟨q,hq⟩:∃ q,(Zm.Yw c)[j]?=some q:=⟨_,List.getElem?_eq_getElem (by omega)⟩
        simp only [QS,show (j:Int)<(k:Int) from by omega,if_true,Zu,hq,Bq]
        refine ⟨fun hh=>by rw [if_neg (hh q rfl)],fun hh=>?_⟩
        rw [if_pos]
        apply Classical.byContradiction
        intro hne
        exact hh (fun q' hq'=>by injection hq' with hq';subst hq';exact hne)
      simp only [Ji,show (k:Int)<((Zm.Yw c).length:Int) from by omega,if_true,Zu,hx,Bq]
      constructor
      · rintro ⟨⟨a,b⟩,d⟩
        rw [inner _ (.inl (((((Zm.Yw c).take (k+1)).countP (fun p=>YP.Clock p):Nat):Int),((k+1:Nat):Int),())) (fun _=>by
          rw [rest,YS ⟨a,d⟩,hnext]
          by_cases hc:YP.Clock p=true
          · rw [if_pos hc,if_pos hc,Xx (by omega)]
          · rw [if_neg hc,if_neg hc];rfl),YS (fun j hj q hq=>b j q hj hq)]
      · intro hh
        rw [inner _ (.inr (0,false)) (fun hn=>by
          rw [rest,YH (fun h'=>hh ⟨⟨h'.1,hn⟩,h'.2⟩)])]
        by_cases hP:∀ j,j<k→∀ q,(Zm.Yw c)[j]?=some q→YP.Name q≠YP.Name p
        · rw [YS hP]
        · rw [YH hP])
    (fun _=>by simp only [Ji,Int.lt_irrefl,if_false,List.take_length];rfl)
  refine (show Zv (fun v=>Ji c v.1 v.2.1) ((0:Int),(0:Int),())=_ from this).trans ?_
  congr 1
  have e:ZeY (Zm.Yw c) (fun k p=>(VW (YP.Name p)=true∧∀ (j:Nat) (q:YP),j<k→(Zm.Yw c)[j]?=some q→YP.Name q≠YP.Name p)∧Zsx (Zm.Yw c).length k p)↔Zkc (Zm.Yw c):=by
    constructor
    · intro hA
      refine ⟨by omega,by omega,fun j s hj hs'=>?_,fun k p hp=>(hA k p hp).2⟩
      simp only [ZeH,List.getElem?_map,Option.map_eq_some_iff] at hs'
      obtain ⟨q,hq,rfl⟩:=hs'
      exact ⟨(hA j q hq).1.1,Zka.2 (hA j q hq).1.2⟩
    · intro hh k p hp
      have hk:=(List.getElem?_eq_some_iff.1 hp).1
      have hn:=hh.2.2.1 k (YP.Name p) hk (by simp [ZeH,hp])
      exact ⟨⟨hn.1,Zka.1 hn.2⟩,hh.2.2.2 k p hp⟩
  rw [propext e]
/-
  Plain laws: arcs.
-/
def ZrQ (l:List YP) (i:Int):Bool:=match l[i.toNat]? with
  | some p=>YP.Clock p
  | none=>false
def ZmE (c:Zm) (a:ZJ):Prop :=
  (0≤ZJ.From a∧ZJ.From a≤((Zm.Yw c).length:Int)-2)∧(0≤ZJ.To a∧ZJ.To a≤((Zm.Yw c).length:Int)-1)∧
  ((ZJ.Kind a=1∧ZrQ (Zm.Yw c) (ZJ.From a)=false∧ZJ.To a=((Zm.Yw c).length:Int)-1∧(1≤ZJ.ZbJ a∧ZJ.ZbJ a≤3)∧ZeD (ZJ.Delay a) true∧ZeD (ZJ.ZdS a) true)∨
   ((ZJ.Kind a=2∨ZJ.Kind a=3)∧ZrQ (Zm.Yw c) (ZJ.From a)=true∧ZJ.To a=((Zm.Yw c).length:Int)-1∧ZJ.ZbJ a=0∧ZeD (ZJ.Delay a) true∧ZeD (ZJ.ZdS a) true)∨
   ((ZJ.Kind a=4∨ZJ.Kind a=5)∧ZrQ (Zm.Yw c) (ZJ.From a)=true∧ZJ.To a<((Zm.Yw c).length:Int)-1∧ZrQ (Zm.Yw c) (ZJ.To a)=false∧ZJ.ZbJ a=0∧ZeD (ZJ.Delay a) false∧(ZJ.ZdS a).length=0))
theorem ZmE.kind {c:Zm} {a:ZJ} (h:ZmE c a):1≤ZJ.Kind a∧ZJ.Kind a≤5:=by
  rcases h.2.2 with h | h | h
  · have:=h.1;omega
  · have:=h.1;omega
  · have:=h.1;omega
theorem ZBE {P Q:Prop} {m:Option Bool} (hm:m=some (tr Q)):(if tr P=true then m else some false)=some (tr (P∧Q)):=by
  by_cases h:P
  · rw [if_pos (Yb h),hm];congr 1;exact YB ⟨fun q=>⟨h,q⟩,fun q=>q.2⟩
  · rw [if_neg (by rw [ZQ h];simp),ZQ (fun q=>h q.1)]
theorem Yv {P Q:Prop} {_:Decidable P} {m:Option Bool} (hm:P→m=some (tr Q)):(if P then m else some false)=some (tr (P∧Q)):=by
  by_cases h:P
  · rw [if_pos h,hm h];congr 1;exact YB ⟨fun q=>⟨h,q⟩,fun q=>q.2⟩
  · rw [if_neg h,ZQ (fun q=>h q.1)]
theorem Zf6 {P Q:Prop} {_:Decidable P} {m:Option Bool} (hm:¬P→m=some (tr Q)):(if P then some false else m)=some (tr (¬P∧Q)):=by
  by_cases h:P
  · rw [if_pos h,ZQ (fun q=>q.1 h)]
  · rw [if_neg h,hm h];congr 1;exact YB ⟨fun q=>⟨h,q⟩,fun q=>q.2⟩
theorem Jw {P:Prop} {b:Bool} (h:b=true↔P):some b=some (tr P):=by rw [ZlV h]
theorem Vb {m:Option Bool} {P Q:Prop} (h:m=some (tr P)) (hpq:P↔Q):m=some (tr Q):=by rw [h,propext hpq]
theorem ZmC {Q:Prop} (h:¬Q):(some false:Option Bool)=some (tr Q):=by rw [ZQ h]
theorem Jt {P:Prop} {m:Option Bool} (h:m=some (tr P)):(m.bind fun b=>some b)=some (tr P):=by rw [h];rfl
theorem YA {P Q:Prop} {m m2:Option Bool} (h:m=some (tr P)) (h2:P→m2=some (tr Q)):(m.bind fun b=>if b=true then m2 else some false)=some (tr (P∧Q)):=by
  rw [h,Bq]
  by_cases hp:P
  · rw [if_pos (Yb hp),h2 hp];congr 1;exact YB ⟨fun q=>⟨hp,q⟩,fun q=>q.2⟩
  · rw [if_neg (by rw [ZQ hp];simp),ZQ (fun q=>hp q.1)]
theorem Zux {P Q:Prop} {m m2:Option Bool} (h:m=some (tr P)) (h2:¬P→m2=some (tr Q)):(m.bind fun b=>if b=true then some false else m2)=some (tr (¬P∧Q)):=by
  rw [h,Bq]
  by_cases hp:P
  · rw [if_pos (Yb hp),ZQ (fun q=>q.1 hp)]
  · rw [if_neg (by rw [ZQ hp];simp),h2 hp];congr 1;exact YB ⟨fun q=>⟨hp,q⟩,fun q=>q.2⟩
theorem Qf (n a b:Int):ZB n a b=some (tr (a≤n∧n≤b)):=by rw [Jj];exact Jw (within_iff _ _ _)
theorem Xv (n a b:Int):ZN n a b=some (tr (a≤n∧n≤b)):=by rw [Vo];exact Jw (within_iff _ _ _)
theorem ZwI {l:List YP} {i:Int} (h0:0≤i) (h1:i<l.length):∃ p,atI l i=some p∧ZrQ l i=YP.Clock p:=by
  obtain ⟨p,h2,h3⟩:=Zqy h0 h1
  exact ⟨p,h2,by simp [ZrQ,h3]⟩
theorem ZpZ (c:Zm) (a:ZJ) (hp:sm (.sl ZgP) (Zm.Yw c)) (hd:sm (.sl XE) (ZJ.Delay a)) (hw:sm (.sl XE) (ZJ.ZdS a)) (h2:2≤(Zm.Yw c).length):ZhY c a=some (tr (ZmE c a)):=by
  unfold ZhY
  have hs:=Zp hp
  have e1:Wq (((Zm.Yw c).length:Int)-1)=((Zm.Yw c).length:Int)-1:=Jr (by omega) (by omega)
  have e2:Wq (((Zm.Yw c).length:Int)-1-1)=((Zm.Yw c).length:Int)-2:=by rw [Jr (by omega) (by omega)];omega
  rw [e1,e2]
  refine Vb (YA (Qf _ _ _) (fun hF=>YA (Qf _ _ _) (fun hT=>?_))) (Q:=ZmE c a) (P:=(0≤ZJ.From a∧ZJ.From a≤((Zm.Yw c).length:Int)-2)∧(0≤ZJ.To a∧ZJ.To a≤((Zm.Yw c).length:Int)-1)∧ZmE c a) ⟨fun hh=>hh.2.2,fun hh=>⟨hh.1,hh.2.1,hh⟩⟩
  obtain ⟨p,hp1,hp2⟩:=ZwI (l:=Zm.Yw c) hF.1 (by omega)
  rw [hp1,Bq]
  have hdl:=Zig hd
  have hsl:=Zig hw
  have tt:∀ b,(YK (ZJ.Delay a) b).bind (fun x=>if x=true then (YK (ZJ.ZdS a) b).bind (fun y=>some y) else some false)=some (tr (ZeD (ZJ.Delay a) b∧ZeD (ZJ.ZdS a) b)):=fun b=>YA (Zd1 _ _ hdl) (fun _=>Jt (Zd1 _ _ hsl))
  have tz:(YK (ZJ.Delay a) false).bind (fun x=>if x=true then some (Decidable.decide (((ZJ.ZdS a).length:Int)=(0:Int))) else some false)=some (tr (ZeD (ZJ.Delay a) false∧(ZJ.ZdS a).length=0)):=YA (Zd1 _ _ hdl) (fun _=>Jw (by rw [decide_eq_true_eq];omega))
  unfold ZmE
  rw [hp2]
  by_cases k1:ZJ.Kind a=1
  · simp only [k1,if_true]
    refine Vb (Zf6 (fun hc=>Yv (fun hl=>YA (Qf _ _ _) (fun _=>tt true)))) ?_
    grind
  by_cases k2:ZJ.Kind a=2
  · simp only [k2,if_true,Int.reduceEq,if_false]
    refine Vb (Yv (fun hc=>Yv (fun hl=>Yv (fun _=>tt true)))) ?_
    grind
  by_cases k3:ZJ.Kind a=3
  · simp only [k3,if_true,Int.reduceEq,if_false]
    refine Vb (Yv (fun hc=>Yv (fun hl=>Yv (fun _=>tt true)))) ?_
    grind
  have chk:(if YP.Clock p=true then (if ZJ.To a<((Zm.Yw c).length:Int)-1 then (atI (Zm.Yw c) (ZJ.To a)).bind (fun x1=>if YP.Clock x1=true then some false else if ZJ.ZbJ a=0 then (YK (ZJ.Delay a) false).bind (fun x=>if x=true then some (Decidable.decide (((ZJ.ZdS a).length:Int)=(0:Int))) else some false) else some false) else some false) else some false) =
      some (tr (YP.Clock p=true∧ZJ.To a<((Zm.Yw c).length:Int)-1∧ZrQ (Zm.Yw c) (ZJ.To a)=false∧ZJ.ZbJ a=0∧ZeD (ZJ.Delay a) false∧(ZJ.ZdS a).length=0)):=by
    refine Yv (fun _=>Yv (fun hl=>?_))
    obtain ⟨q,hq1,hq2⟩:=ZwI (l:=Zm.Yw c) hT.1 (by omega)
    rw [hq1,Bq,hq2]
    refine Vb (Zf6 (fun _=>Yv (fun _=>tz))) ?_
    simp only [Bool.not_eq_true]
  by_cases k4:ZJ.Kind a=4
  · simp only [k4,if_true,Int.reduceEq,if_false]
    refine Vb chk ?_
    grind
  by_cases k5:ZJ.Kind a=5
  · simp only [k5,if_true,Int.reduceEq,if_false]
    refine Vb chk ?_
    grind
  · simp only [k1,k2,k3,k4,k5,if_false]
    refine ZmC ?_
    grind
def Zjf (l:List YP):Int:=Za6 (fun p=>YP.Clock p) l
theorem Zmd (c:Zm) (h:sm (.sl ZgP) (Zm.Yw c)):Zdf c=some (Zjf (Zm.Yw c)):=by
  unfold Zdf
  rw [Qw (YL h) (fun p=>YP.Clock p) (fun p _=>rfl),Bq]
  rfl
theorem ZcA (c:Zm) (h:sm (.sl ZgP) (Zm.Yw c)):Zaz c=some (((Zm.Yw c).length:Int)-1):=by
  have hs:=Zp h
  show some (Wq (((Zm.Yw c).length:Int)-1))=_
  rw [Jr (by omega) (by omega)]
theorem Ze3 (c:Zm) (i:Int) (h:sm (.sl ZgP) (Zm.Yw c)):J3 c i=some (tr (0≤i∧i≤((Zm.Yw c).length:Int)-2)):=by
  have hs:=Zp h
  unfold J3
  rw [ZcA c h,Bq,Jr (by omega) (by omega)]
  refine Vb (Jt (Xv _ _ _)) ?_
  omega
def Zxx (c:Zm) (a:ZJ):Prop :=
  ((ZJ.Kind a=4∨ZJ.Kind a=5)∧ZJ.ZbJ a=0∧(ZJ.ZdS a).length=0∧ZeD (ZJ.Delay a) false∧ZJ.From a=Zjf (Zm.Yw c)∧0≤ZJ.From a∧(0≤ZJ.To a∧ZJ.To a≤((Zm.Yw c).length:Int)-2)∧ZJ.To a≠ZJ.From a)∨
  (¬(ZJ.Kind a=4∨ZJ.Kind a=5)∧ZeD (ZJ.Delay a) true∧ZeD (ZJ.ZdS a) true∧ZJ.To a=((Zm.Yw c).length:Int)-1∧(0≤ZJ.From a∧ZJ.From a≤((Zm.Yw c).length:Int)-2)∧
    ((ZJ.Kind a=1∧ZrQ (Zm.Yw c) (ZJ.From a)=false∧(1≤ZJ.ZbJ a∧ZJ.ZbJ a≤3))∨((ZJ.Kind a=2∨ZJ.Kind a=3)∧ZrQ (Zm.Yw c) (ZJ.From a)=true∧ZJ.ZbJ a=0)))
theorem ZoM (k:Int):ZgZ k=some (tr (k=4∨k=5)):=by
  unfold ZgZ
  split
  · rename_i h;rw [Yb (.inl h)]
  · rename_i h
    exact Jw (by rw [decide_eq_true_eq];omega)
theorem Zr4 (c:Zm) (a:ZJ) (hp:sm (.sl ZgP) (Zm.Yw c)) (hd:sm (.sl XE) (ZJ.Delay a)) (hw:sm (.sl XE) (ZJ.ZdS a)):Zdn c a=some (tr (Zxx c a)):=by
  unfold Zdn
  have hdl:=Zig hd
  have hsl:=Zig hw
  rw [ZoM,Bq]
  by_cases hk:ZJ.Kind a=4∨ZJ.Kind a=5
  · rw [if_pos (Yb hk)]
    refine Vb (Yv (fun _=>Yv (fun _=>YA (ZdO _ _ hdl) (fun _=>?_)))) (P:=ZJ.ZbJ a=0∧((ZJ.ZdS a).length:Int)=0∧ZeD (ZJ.Delay a) false∧(ZJ.From a=Zjf (Zm.Yw c)∧0≤ZJ.From a∧(0≤ZJ.To a∧ZJ.To a≤((Zm.Yw c).length:Int)-2)∧ZJ.To a≠ZJ.From a)) ?_
    · rw [Zmd c hp,Bq]
      refine Yv (fun _=>Yv (fun _=>YA (Ze3 c _ hp) (fun _=>Jw ?_)))
      rw [Bool.not_eq_true',decide_eq_false_iff_not]
    · unfold Zxx
      constructor
      · rintro ⟨x1,x2,x3,x4⟩
        exact .inl ⟨hk,x1,by omega,x3,x4⟩
      · rintro (⟨_,x1,x2,x3,x4⟩ | ⟨x,_⟩)
        · exact ⟨x1,by omega,x3,x4⟩
        · exact absurd hk x
  · rw [if_neg (by rw [ZQ hk];simp)]
    refine Vb (YA (ZdO _ _ hdl) (fun _=>YA (ZdO _ _ hsl) (fun _=>?_))) (P:=ZeD (ZJ.Delay a) true∧ZeD (ZJ.ZdS a) true∧(ZJ.To a=((Zm.Yw c).length:Int)-1∧(0≤ZJ.From a∧ZJ.From a≤((Zm.Yw c).length:Int)-2)∧
      ((ZJ.Kind a=1∧ZrQ (Zm.Yw c) (ZJ.From a)=false∧(1≤ZJ.ZbJ a∧ZJ.ZbJ a≤3))∨((ZJ.Kind a=2∨ZJ.Kind a=3)∧ZrQ (Zm.Yw c) (ZJ.From a)=true∧ZJ.ZbJ a=0)))) ?_
    · rw [ZcA c hp,Bq]
      refine Yv (fun _=>YA (Ze3 c _ hp) (fun hF=>?_))
      obtain ⟨p,hp1,hp2⟩:=ZwI (l:=Zm.Yw c) hF.1 (by omega)
      rw [hp1,hp2]
      simp only [Bq]
      by_cases k1:ZJ.Kind a=1
      · simp only [k1,if_true]
        refine Vb (Zf6 (fun _=>Jt (Xv _ _ _))) ?_
        grind
      by_cases k2:ZJ.Kind a=2
      · simp only [k2,if_true,Int.reduceEq,if_false]
        refine Vb (Yv (fun _=>Jw (decide_eq_true_iff))) ?_
        grind
      by_cases k3:ZJ.Kind a=3
      · simp only [k3,if_true,Int.reduceEq,if_false]
        refine Vb (Yv (fun _=>Jw (decide_eq_true_iff))) ?_
        grind
      · simp only [k1,k2,k3,if_false]
        refine ZmC ?_
        grind
    · unfold Zxx
      constructor
      · intro x;exact .inr ⟨hk,x⟩
      · rintro (⟨x,_⟩ | ⟨_,x⟩)
        · exact absurd x hk
        · exact x
/-
  Plain laws: cells and libraries.
-/
def Zf1 (o a:ZJ):Prop:=ZJ.Kind o=ZJ.Kind a∧ZJ.From o=ZJ.From a∧ZJ.To o=ZJ.To a
def Apart (l:List ZJ) (k:Nat) (a:ZJ):Prop:=∀ (j:Nat) (o:ZJ),j<k→l[j]?=some o→¬Zf1 o a
structure ZqS (c:Zm):Prop where
  name:(Zm.Name c).length≤4611686018427387904
  pins:sm (.sl ZgP) (Zm.Yw c)
  arcs:sm (.sl Zib) (Zm.JQ c)
  truth:sm (.sl (.int .i64)) (Zm.Truth c)
theorem ZwE {c:Zm} (h:sm QL c):ZqS c:=⟨ZfS h.1,h.2.2.1,h.2.2.2.1,h.2.2.2.2.1⟩
theorem ZyN {a:ZJ} (h:sm Zib a):sm (.sl XE) (ZJ.Delay a)∧sm (.sl XE) (ZJ.ZdS a):=⟨h.2.2.2.2.1,h.2.2.2.2.2.1⟩
theorem ZlT (o a:ZJ):Qo o a=some (tr (Zf1 o a)):=by
  unfold Qo Zf1
  exact Yv (fun _=>Yv (fun _=>Jw decide_eq_true_iff))
theorem ZoG (c:Zm) (h:ZqS c):ZbH c=some (tr ((Zm.JQ c).length≤8∧ZeY (Zm.JQ c) (fun k a=>Zxx c a∧Apart (Zm.JQ c) k a))):=by
  unfold ZbH
  have hs:=Zp h.arcs
  rw [Qs (YL h.arcs) (fun k a=>Zxx c a∧Apart (Zm.JQ c) k a) (bad:=false) (good:=decide ((Zm.JQ c).length≤8))
    (fun k a hx hk _=>by
      obtain ⟨h1,h2⟩:=ZyN (QV h.arcs hx)
      simp only [Zaj,show (k:Int)<((Zm.JQ c).length:Int) from by omega,if_true,Zu,hx,Bq,Zr4 c a h.pins h1 h2]
      by_cases hA:Zxx c a
      · rw [if_pos (Yb hA),Zi (by omega),Zi (by omega)]
        simp only [Int.toNat_natCast,Int.toNat_zero,List.drop_zero,Nat.sub_zero]
        rw [X8 (by show ((Zm.JQ c).take k).length≤4611686018427387904;rw [List.length_take];omega) (fun o=>tr (Zf1 o a)) (fun o _=>ZlT o a),Bq]
        have e:((Zm.JQ c).take k).any (fun o=>tr (Zf1 o a))=true↔¬Apart (Zm.JQ c) k a:=by
          rw [List.any_eq_true]
          constructor
          · rintro ⟨o,ho,hs⟩ hap
            obtain ⟨j,hj⟩:=List.mem_iff_getElem?.1 ho
            rw [List.getElem?_take] at hj
            split at hj
            · rename_i hjk;exact hap j o hjk hj ((Y9 _).1 hs)
            · cases hj
          · intro hn
            apply Classical.byContradiction
            intro hno
            refine hn (fun j o hj ho hs=>hno ⟨o,?_,Yb hs⟩)
            exact List.mem_iff_getElem?.2 ⟨j,by rw [List.getElem?_take,if_pos hj];exact ho⟩
        constructor
        · rintro ⟨_,hap⟩;rw [if_neg (fun hh=>e.1 hh hap)]
        · intro hn;rw [if_pos (e.2 (fun hap=>hn ⟨hA,hap⟩))]
      · rw [if_neg (by rw [ZQ hA];simp)]
        exact ⟨fun hh=>absurd hh.1 hA,fun _=>rfl⟩)
    (fun _=>by
      simp only [Zaj,Int.lt_irrefl,if_false]
      congr 2
      rw [decide_eq_decide];omega)]
  congr 1
  refine ZdR ?_
  rw [Y9]
  by_cases hA:ZeY (Zm.JQ c) (fun k a=>Zxx c a∧Apart (Zm.JQ c) k a)
  · rw [YS hA,decide_eq_true_eq];exact ⟨fun h=>⟨h,hA⟩,fun h=>h.1⟩
  · rw [YH hA];exact ⟨fun h=>(by cases h),fun h=>absurd h.2 hA⟩
def Zsp (c:Zm) (k:Int):Prop:=∃ a∈Zm.JQ c,ZJ.Kind a=k
theorem ZdQ (c:Zm) (k:Int) (h:ZqS c):Vf c k=some (tr (Zsp c k)):=by
  unfold Vf
  rw [Qq (YL h.arcs) (fun a=>decide (ZJ.Kind a=k)) (fun a _=>rfl),Bq]
  refine Jw ?_
  rw [List.any_eq_true]
  simp only [decide_eq_true_eq,Zsp]
def Zgz (c:Zm):Prop :=
  (Zm.Kind c=1∧Zob (Zm.Yw c)=0∧(Zm.Truth c).length=2 ^ ((Zm.Yw c).length-1)∧ZiJ (Zm.Truth c) 0 1)∨
  (Zm.Kind c=2∧Zob (Zm.Yw c)=1∧(Zm.Truth c).length=0∧¬Zsp c 1∧(Zsp c 2↔¬Zsp c 3))∨
  (Zm.Kind c=3∧Zob (Zm.Yw c)=1∧(Zm.Truth c).length=0∧Zsp c 1∧Zsp c 2∧¬Zsp c 3)
theorem Zwg {n:Nat} (h:n≤4):(2:Nat) ^ n≤16:=by
  calc (2:Nat) ^ n≤2 ^ 4:=Nat.pow_le_pow_right (by omega) h
    _=16:=rfl
theorem ZBy {m:Nat} (h:m≤4):Wq ((1:Int)*(2:Int) ^ min m (IntKind.bits IntKind.i64))=((2 ^ m:Nat):Int):=by
  have hb:min m (IntKind.bits IntKind.i64)=m:=Nat.min_eq_left (by show m≤64;omega)
  have e:(1:Int)*(2:Int) ^ m=((2 ^ m:Nat):Int):=by simp
  rw [hb,e]
  have h16:=Zwg h
  clear hb e
  generalize 2 ^ m=g at h16 ⊢
  rw [Jr (by omega) (by omega)]
theorem Zof (c:Zm) (h:ZqS c) (hp:Zkc (Zm.Yw c)):Za3 c=some (tr (Zgz c)):=by
  unfold Za3
  have h2:=hp.1
  have h5:=hp.2.1
  refine (show Zv (fun v=>X5 c v.1 v.2.1) ((0:Int),(0:Int),())=_ from Yk (l:=Zm.Yw c) (ρ:=Bool) (fun k=>((((Zm.Yw c).take k).countP (fun p=>YP.Clock p):Int),(k:Int),())) (step:=fun v=>X5 c v.1 v.2.1)
    (fun k p hx hk=>by
      have hcnt:((Zm.Yw c).take k).countP (fun p=>YP.Clock p)≤5:=by
        have h1:=List.countP_le_length (p:=fun p=>YP.Clock p) (l:=(Zm.Yw c).take k)
        rw [List.length_take] at h1;omega
      have hnext:((Zm.Yw c).take (k+1)).countP (fun p=>YP.Clock p)=((Zm.Yw c).take k).countP (fun p=>YP.Clock p)+if YP.Clock p=true then 1 else 0:=by
        rw [Z8 hx,List.countP_append];simp [List.countP_cons]
      simp only [X5,show (k:Int)<((Zm.Yw c).length:Int) from by omega,if_true,Zu,hx,Bq,hnext]
      by_cases hc:YP.Clock p=true
      · rw [if_pos hc,if_pos hc,Xx (by omega),Xx (by omega)]
      · rw [if_neg hc,if_neg hc,Xx (by omega)];rfl)
    ?_)
  have hout:=ZcA c h.pins
  simp only [X5,Int.lt_irrefl,if_false,List.take_length,hout,Bq,show (((Zm.Yw c).length:Int)-1).toNat=(Zm.Yw c).length-1 from by omega,ZBy (show (Zm.Yw c).length-1≤4 by omega)]
  have e00:((Zm.Yw c).countP (fun p=>YP.Clock p):Int)=0↔Zob (Zm.Yw c)=0:=by unfold Zob;omega
  have e01:((Zm.Yw c).countP (fun p=>YP.Clock p):Int)=1↔Zob (Zm.Yw c)=1:=by unfold Zob;omega
  unfold Zgz
  by_cases k1:Zm.Kind c=1
  · simp only [k1,if_true]
    by_cases hc:Zob (Zm.Yw c)=0
    · rw [if_pos (e00.2 hc),Zi (by omega)]
      by_cases ht:(Zm.Truth c).length=2 ^ ((Zm.Yw c).length-1)
      · rw [if_pos (by rw [ht]),ZbS _ _ _ (YL h.truth),Bq]
        congr 2
        refine (ZlV ?_).symm
        rw [ZlQ]
        exact ⟨fun hh=>.inl ⟨trivial,hc,ht,hh⟩,fun hh=>by grind⟩
      · rw [if_neg (by omega),ZQ (by grind)]
    · rw [if_neg (fun hh=>hc (e00.1 hh)),ZQ (by grind)]
  by_cases k2:Zm.Kind c=2
  · simp only [k2,if_true,Int.reduceEq,if_false]
    by_cases hc:Zob (Zm.Yw c)=1
    · rw [if_pos (e01.2 hc)]
      by_cases ht:(Zm.Truth c).length=0
      · rw [if_pos (by omega),ZdQ c 1 h,Bq]
        by_cases h1:Zsp c 1
        · rw [if_pos (Yb h1),ZQ (by grind)]
        · rw [if_neg (by rw [ZQ h1];simp),ZdQ c 2 h,ZdQ c 3 h]
          simp only [Bq]
          congr 2
          refine (ZlV ?_).symm
          by_cases a:Zsp c 2<;>by_cases b:Zsp c 3<;>simp only [Yb,ZQ,a,b,not_false_eq_true]<;>grind
      · rw [if_neg (by omega),ZQ (by grind)]
    · rw [if_neg (fun hh=>hc (e01.1 hh)),ZQ (by grind)]
  by_cases k3:Zm.Kind c=3
  · simp only [k3,if_true,Int.reduceEq,if_false]
    by_cases hc:Zob (Zm.Yw c)=1
    · rw [if_pos (e01.2 hc)]
      by_cases ht:(Zm.Truth c).length=0
      · rw [if_pos (by omega),ZdQ c 1 h,Bq]
        by_cases h1:Zsp c 1
        · rw [if_pos (Yb h1),ZdQ c 2 h,Bq]
          by_cases h2:Zsp c 2
          · rw [if_pos (Yb h2),ZdQ c 3 h,Bq]
            congr 2
            refine (ZlV ?_).symm
            rw [Bool.not_eq_true',←Bool.not_eq_true,Y9]
            grind
          · rw [if_neg (by rw [ZQ h2];simp),ZQ (by grind)]
        · rw [if_neg (by rw [ZQ h1];simp),ZQ (by grind)]
      · rw [if_neg (by omega),ZQ (by grind)]
    · rw [if_neg (fun hh=>hc (e01.1 hh)),ZQ (by grind)]
  · simp only [k1,k2,k3,if_false]
    rw [ZQ (by grind)]
def ZBs (c:Zm):Prop:=VW (Zm.Name c)=true∧Zkc (Zm.Yw c)∧((Zm.JQ c).length≤8∧ZeY (Zm.JQ c) (fun k a=>Zxx c a∧Apart (Zm.JQ c) k a))∧(0≤Zm.Zxy c∧Zm.Zxy c≤100000)∧(0≤Zm.Zkf c∧Zm.Zkf c≤100000)∧Zgz c
def ZlX (c:Zm):Prop:=VW (Zm.Name c)=true∧Zkc (Zm.Yw c)∧((Zm.JQ c).length≤8∧ZeY (Zm.JQ c) (fun k a=>ZmE c a∧Apart (Zm.JQ c) k a))∧(0≤Zm.Zxy c∧Zm.Zxy c≤100000)∧(0≤Zm.Zkf c∧Zm.Zkf c≤100000)∧Zgz c
theorem ZuG {l:List YP} {i j:Nat} {p q:YP} (hij:i<j) (hp:l[i]?=some p) (hq:l[j]?=some q) (cp:YP.Clock p=true) (cq:YP.Clock q=true):2≤Zob l:=by
  unfold Zob
  have e:l.countP (fun p=>YP.Clock p)=(l.take j).countP (fun p=>YP.Clock p)+(l.drop j).countP (fun p=>YP.Clock p):=by rw [←List.countP_append,List.take_append_drop]
  have h1:0<(l.take j).countP (fun p=>YP.Clock p):=List.countP_pos_iff.2 ⟨p,List.mem_iff_getElem?.2 ⟨i,by rw [List.getElem?_take,if_pos hij];exact hp⟩,cp⟩
  have h2:0<(l.drop j).countP (fun p=>YP.Clock p):=List.countP_pos_iff.2 ⟨q,List.mem_iff_getElem?.2 ⟨0,by rw [List.getElem?_drop];exact hq⟩,cq⟩
  omega
theorem ZqQ {l:List YP} (h:Zob l≤1) {i:Int} (h0:0≤i):ZrQ l i=true↔i=Zjf l:=by
  unfold Zjf Za6 ZrQ
  constructor
  · intro hc
    split at hc
    · rename_i p hp
      split
      · rename_i j hj
        obtain ⟨hj1,hj2,hj3⟩:=List.findIdx?_eq_some_iff_getElem.1 hj
        have hjg:l[j]?=some l[j]:=List.getElem?_eq_getElem hj1
        rcases Nat.lt_trichotomy i.toNat j with hlt | heq | hlt
        · have:=ZuG hlt hp hjg hc hj2;omega
        · omega
        · have:=ZuG hlt hjg hp hj2 hc;omega
      · rename_i hn
        rw [List.findIdx?_eq_none_iff] at hn
        have:=hn p (List.mem_of_getElem? hp)
        rw [hc] at this;cases this
    · cases hc
  · intro hi
    split at hi
    · rename_i j hj
      obtain ⟨hj1,hj2,hj3⟩:=List.findIdx?_eq_some_iff_getElem.1 hj
      subst hi
      rw [Int.toNat_natCast,List.getElem?_eq_getElem hj1]
      exact hj2
    · omega
theorem Zvl {l:List YP} (h:Zkc l):ZrQ l ((l.length:Int)-1)=false:=by
  have h2:=h.1
  have hp:l[l.length-1]?=some l[l.length-1]:=List.getElem?_eq_getElem (by omega)
  have:=((h.2.2.2 _ _ hp).2.1 (by omega)).2.2
  unfold ZrQ
  rw [show ((l.length:Int)-1).toNat=l.length-1 by omega,hp]
  exact this
theorem ZvR {c:Zm} (hp:Zkc (Zm.Yw c)) (hk:Zob (Zm.Yw c)≤1) (a:ZJ):Zxx c a↔ZmE c a:=by
  have h2:=hp.1
  have hF:0≤ZJ.From a→(ZrQ (Zm.Yw c) (ZJ.From a)=true↔ZJ.From a=Zjf (Zm.Yw c)):=fun h=>ZqQ hk h
  have hT:0≤ZJ.To a→(ZrQ (Zm.Yw c) (ZJ.To a)=true↔ZJ.To a=Zjf (Zm.Yw c)):=fun h=>ZqQ hk h
  have hlast:=Zvl hp
  have hfr:∀ i,ZrQ (Zm.Yw c) i=true→i<((Zm.Yw c).length:Int):=by
    intro i hi
    unfold ZrQ at hi
    split at hi
    · rename_i p hp'
      have:=(List.getElem?_eq_some_iff.1 hp').1
      omega
    · cases hi
  unfold Zxx ZmE
  generalize Zjf (Zm.Yw c)=ck at *
  constructor
  · rintro (⟨k,s,sl,td,fc,f0,⟨t0,t1⟩,ne⟩ | ⟨k,td,ts,te,⟨f0,f1⟩,hh⟩)
    · have hclk:=(hF f0).2 fc
      have hnl:ZJ.From a≠((Zm.Yw c).length:Int)-1:=fun e=>by rw [e,hlast] at hclk;cases hclk
      have:=hfr _ hclk
      refine ⟨⟨f0,by omega⟩,⟨t0,by omega⟩,.inr (.inr ⟨k,hclk,by omega,?_,s,td,sl⟩)⟩
      rw [←Bool.not_eq_true]
      intro hc
      exact ne (((hT t0).1 hc).trans fc.symm)
    · refine ⟨⟨f0,f1⟩,⟨by omega,by omega⟩,?_⟩
      rcases hh with ⟨k1,c1,s1⟩ | ⟨k1,c1,s1⟩
      · exact .inl ⟨k1,c1,te,s1,td,ts⟩
      · exact .inr (.inl ⟨k1,c1,te,s1,td,ts⟩)
  · rintro ⟨⟨f0,f1⟩,⟨t0,t1⟩,(⟨k,c1,te,s,td,ts⟩ | ⟨k,c1,te,s,td,ts⟩ | ⟨k,c1,tl,c2,s,td,sl⟩)⟩
    · exact .inr ⟨by omega,td,ts,te,⟨f0,f1⟩,.inl ⟨k,c1,s⟩⟩
    · exact .inr ⟨by omega,td,ts,te,⟨f0,f1⟩,.inr ⟨k,c1,s⟩⟩
    · refine .inl ⟨k,s,sl,td,(hF f0).1 c1,f0,⟨t0,by omega⟩,fun e=>?_⟩
      rw [e,c1] at c2;cases c2
theorem Zgz.Zob {c:Zm} (h:Zgz c):Zob (Zm.Yw c)≤1:=by
  rcases h with h | h | h
  · have:=h.2.1;omega
  · have:=h.2.1;omega
  · have:=h.2.1;omega
theorem ZyF (c:Zm):ZBs c↔ZlX c:=by
  unfold ZBs ZlX
  constructor
  · rintro ⟨a,b,⟨c1,d⟩,e,f,g⟩
    exact ⟨a,b,⟨c1,fun k x hx=>⟨(ZvR b g.Zob x).1 (d k x hx).1,(d k x hx).2⟩⟩,e,f,g⟩
  · rintro ⟨a,b,⟨c1,d⟩,e,f,g⟩
    exact ⟨a,b,⟨c1,fun k x hx=>⟨(ZvR b g.Zob x).2 (d k x hx).1,(d k x hx).2⟩⟩,e,f,g⟩
theorem ZpT (c:Zm) (h:sm QL c):Ziu c=some (tr (ZlX c)):=by
  have hc:=ZwE h
  unfold Ziu
  refine Vb (YA (by rw [Zej];exact Jw Iff.rfl) (fun _=>YA (Zpj _ hc.pins) (fun hp=>YA (ZoG c hc) (fun _=>YA (Xv _ _ _) (fun _=>YA (Xv _ _ _) (fun _=>Jt (Zof c hc hp))))))) ?_
  exact (ZyF c)
/-
  Plain laws: cells by the reference; libraries.
-/
def ZeT (l:List ZJ):List Int:=(List.range 6).map (fun (j:Nat)=>((l.countP (fun a=>decide (ZJ.Kind a=(j:Int))):Nat):Int))
theorem ZcK (l:List ZJ) {j:Nat} (h:j<6):(ZeT l)[j]?=some ((l.countP (fun a=>decide (ZJ.Kind a=(j:Int))):Nat):Int):=by
  simp [ZeT,List.getElem?_range h]
theorem Zn2 (c:Zm) (h:ZqS c) (hk:∀ a∈Zm.JQ c,1≤ZJ.Kind a∧ZJ.Kind a≤5):Zfi c=some (ZeT (Zm.JQ c)):=by
  unfold Zfi
  have hs:=Zp h.arcs
  have h0:List.replicate (Int.toNat (6:Int)) (0:Int)=ZeT ((Zm.JQ c).take 0):=by simp [ZeT];decide
  rw [h0]
  refine Yk (l:=Zm.JQ c) (ρ:=List Int) (fun k=>((k:Int),ZeT ((Zm.JQ c).take k),())) (step:=fun v=>Zad c v.1 v.2.1)
    (fun k a hx hlt=>?_) (by simp only [Zad,Int.lt_irrefl,if_false,List.take_length])
  obtain ⟨k1,k5⟩:=hk a (List.mem_of_getElem? hx)
  have hkn:ZJ.Kind a=(((ZJ.Kind a).toNat:Nat):Int):=by omega
  have hcnt:∀ j:Nat,((Zm.JQ c).take k).countP (fun a=>decide (ZJ.Kind a=(j:Int)))≤1048576:=by
    intro j
    have h1:=List.countP_le_length (p:=fun a=>decide (ZJ.Kind a=(j:Int))) (l:=(Zm.JQ c).take k)
    rw [List.length_take] at h1;omega
  simp only [Zad,show (k:Int)<((Zm.JQ c).length:Int) from by omega,if_true,Zu,hx,Bq]
  rw [XI (by omega) (ZcK _ (show (ZJ.Kind a).toNat<6 by omega)),Bq,Xx (hcnt _),Xx (by omega)]
  congr 3
  rw [Prod.mk.injEq]
  refine ⟨?_,rfl⟩
  apply List.ext_getElem?
  intro j
  by_cases hj:(ZJ.Kind a).toNat=j
  · subst hj
    rw [List.getElem?_set_self (by simp [ZeT];omega),ZcK _ (by omega),Z8 hx,List.countP_append]
    congr 2
    rw [List.countP_cons,List.countP_nil]
    simp [←hkn]
  · rw [List.getElem?_set_ne hj]
    by_cases h6:j<6
    · rw [ZcK _ h6,ZcK _ h6,Z8 hx,List.countP_append]
      congr 2
      rw [List.countP_cons,List.countP_nil]
      have:¬ZJ.Kind a=(j:Int):=by omega
      simp [this]
    · rw [List.getElem?_eq_none (by simp [ZeT];omega),List.getElem?_eq_none (by simp [ZeT];omega)]
theorem Zpl (c:Zm) (j:Nat):0<(Zm.JQ c).countP (fun a=>decide (ZJ.Kind a=(j:Int)))↔Zsp c j:=by
  rw [List.countP_pos_iff]
  simp only [decide_eq_true_eq,Zsp]
theorem Zna (c:Zm) (h:ZqS c) (hp:Zkc (Zm.Yw c)) (hk1:Zm.Kind c=1) :
    Zv (fun v=>ZbT c ((Zob (Zm.Yw c):Int),true) v.1) ((0:Int),())=some (.inr (tr (Zgz c))):=by
  have h2:=hp.1
  have h5:=hp.2.1
  have hs:=Zp h.truth
  have e1:Wq (((Zm.Yw c).length:Int)-1)=((Zm.Yw c).length:Int)-1:=Jr (by omega) (by omega)
  have e2:IntKind.u64.wrap (((Zm.Yw c).length:Int)-1)=((Zm.Yw c).length:Int)-1:=IntWalk.u64_in _ (by omega)
  rw [Qs (YL h.truth) (fun k x=>0≤x∧x≤1) (bad:=.inr false) (good:=.inr (tr (Zob (Zm.Yw c)=0∧(Zm.Truth c).length=2 ^ ((Zm.Yw c).length-1))))
    (fun k x hx hk _=>by
      simp only [ZbT,show (k:Int)<((Zm.Truth c).length:Int) from by omega,if_true,Zu,hx,Bq,Jj,within_iff]
      exact ⟨fun hh=>by rw [if_pos hh],fun hh=>by rw [if_neg hh]⟩)
    (fun _=>by
      simp only [ZbT,Int.lt_irrefl,if_false,e1,e2]
      by_cases hc:Zob (Zm.Yw c)=0
      · rw [if_pos (by omega),Zi (by omega),show (((Zm.Yw c).length:Int)-1).toNat=(Zm.Yw c).length-1 by omega,ZBy (by omega)]
        congr 2
        congr 1
        refine (ZlV ?_).symm
        rw [decide_eq_true_eq]
        constructor
        · intro hh;exact ⟨hc,by omega⟩
        · intro hh;rw [hh.2]
      · rw [if_neg (by omega),ZQ (fun hh=>hc hh.1)])]
  congr 1
  by_cases hA:ZeY (Zm.Truth c) (fun k x=>0≤x∧x≤1)
  · rw [YS hA]
    congr 1
    refine YB ?_
    have hAll:ZiJ (Zm.Truth c) 0 1:=fun x hx=>by
      obtain ⟨k,hk⟩:=List.mem_iff_getElem?.1 hx
      exact hA k x hk
    unfold Zgz
    grind
  · rw [YH hA,ZQ]
    intro hh
    rcases hh with hh | hh | hh
    · exact hA (fun k x hk=>hh.2.2.2 x (List.mem_of_getElem? hk))
    · have:=hh.1;omega
    · have:=hh.1;omega
theorem Zp3 (c:Zm) (hsm:sm QL c):ZhJ c=some (tr (ZlX c)):=by
  have h:=ZwE hsm
  have hs:=Zp h.arcs
  unfold ZhJ
  rw [ZpD c h.pins,Bq]
  by_cases hp':¬Zkc (Zm.Yw c)
  · rw [YH hp',ZQ (fun hh=>hp' hh.2.1)];rfl
  have hp:=Classical.not_not.1 hp'
  rw [YS hp]
  simp only [if_true]
  refine Vb (YA (P:=VW (Zm.Name c)=true) (by rw [JL _ h.name];exact Jw Iff.rfl) (fun hn=>Zf6 (fun h8=>YA (Qf _ _ _) (fun hl=>YA (Qf _ _ _) (fun he=>?_))))) (P:=VW (Zm.Name c)=true∧¬((8:Int)<((Zm.JQ c).length:Int))∧(0≤Zm.Zxy c∧Zm.Zxy c≤100000)∧(0≤Zm.Zkf c∧Zm.Zkf c≤100000)∧(ZeY (Zm.JQ c) (fun k a=>ZmE c a∧Apart (Zm.JQ c) k a)∧Zgz c)) ?_
  · rw [Qs (YL h.arcs) (fun k a=>ZmE c a∧Apart (Zm.JQ c) k a) (bad:=false) (good:=tr (Zgz c))
      (fun k a hx hk _=>by
        obtain ⟨h1,h2⟩:=ZyN (QV h.arcs hx)
        simp only [Zd5,show (k:Int)<((Zm.JQ c).length:Int) from by omega,if_true,Zu,hx,Bq,ZpZ c a h.pins h1 h2 hp.1]
        have inner:Zv (fun v=>ZbK c (k:Int) a v.1) ((0:Int),())=some (sel (∀ j,j<k→∀ o,(Zm.JQ c)[j]?=some o→¬Zf1 o a) (.inl (Wq ((k:Int)+1),())) (.inr false)):=by
          refine ZpP k (by omega) (fun j=>∀ o,(Zm.JQ c)[j]?=some o→¬Zf1 o a) (fun j hj=>?_) (fun _=>by simp only [ZbK,Int.lt_irrefl,if_false])
          obtain ⟨o,ho⟩:∃ o,(Zm.JQ c)[j]?=some o:=⟨_,List.getElem?_eq_getElem (by omega)⟩
          simp only [ZbK,show (j:Int)<(k:Int) from by omega,if_true,Zu,ho,Bq]
          have e:(∀ o',some o=some o'→¬Zf1 o' a)↔¬Zf1 o a:=⟨fun hh=>hh o rfl,fun hh o' ho'=>by injection ho' with ho';subst ho';exact hh⟩
          rw [e]
          unfold Zf1
          constructor
          · intro hh
            split
            · split
              · split
                · exact absurd ⟨‹_›,‹_›,‹_›⟩ hh
                · rfl
              · rfl
            · rfl
          · intro hh
            have hh:=Classical.not_not.1 hh
            rw [if_pos hh.1,if_pos hh.2.1,if_pos hh.2.2]
        have eap:Apart (Zm.JQ c) k a↔(∀ j,j<k→∀ o,(Zm.JQ c)[j]?=some o→¬Zf1 o a):=⟨fun hh j hj o ho=>hh j o hj ho,fun hh j o hj ho=>hh j hj o ho⟩
        by_cases hA:ZmE c a
        · rw [if_pos (Yb hA),inner]
          constructor
          · intro hh;rw [YS (eap.1 hh.2)]
          · intro hh;rw [YH (fun h'=>hh ⟨hA,eap.2 h'⟩)]
        · rw [if_neg (by rw [ZQ hA];simp)]
          exact ⟨fun hh=>absurd hh.1 hA,fun _=>rfl⟩)
      (fun hA=>by
        have hkinds:=Zn2 c h (fun a ha=>by
          obtain ⟨k,hk⟩:=List.mem_iff_getElem?.1 ha
          exact (hA k a hk).1.kind)
        have g1:atI (ZeT (Zm.JQ c)) (1:Int)=some (((Zm.JQ c).countP (fun a=>decide (ZJ.Kind a=((1:Nat):Int))):Nat):Int):=XI (by omega) (ZcK _ (by omega))
        have g2:atI (ZeT (Zm.JQ c)) (2:Int)=some (((Zm.JQ c).countP (fun a=>decide (ZJ.Kind a=((2:Nat):Int))):Nat):Int):=XI (by omega) (ZcK _ (by omega))
        have g3:atI (ZeT (Zm.JQ c)) (3:Int)=some (((Zm.JQ c).countP (fun a=>decide (ZJ.Kind a=((3:Nat):Int))):Nat):Int):=XI (by omega) (ZcK _ (by omega))
        have c1:=Zpl c 1
        have c2:=Zpl c 2
        have c3:=Zpl c 3
        simp only [Zd5,Int.lt_irrefl,if_false,hkinds,Bq,g1,g2,g3]
        generalize (Zm.JQ c).countP (fun a=>decide (ZJ.Kind a=((1:Nat):Int)))=n1 at c1 ⊢
        generalize (Zm.JQ c).countP (fun a=>decide (ZJ.Kind a=((2:Nat):Int)))=n2 at c2 ⊢
        generalize (Zm.JQ c).countP (fun a=>decide (ZJ.Kind a=((3:Nat):Int)))=n3 at c3 ⊢
        by_cases k1:Zm.Kind c=1
        · rw [if_pos k1]
          exact Zna c h hp k1
        rw [if_neg k1]
        have hgoal:∀ (b:Bool),(b=true↔Zgz c)→(some (.inr b):Option ((Int×Unit) ⊕ Bool))=some (.inr (tr (Zgz c))):=fun b hb=>by rw [ZlV hb]
        have c1':Zsp c 1↔0<n1:=c1.symm
        have c2':Zsp c 2↔0<n2:=c2.symm
        have c3':Zsp c 3↔0<n3:=c3.symm
        have hKO:Zgz c↔(Zm.Kind c=2∧Zob (Zm.Yw c)=1∧(Zm.Truth c).length=0∧¬0<n1∧(0<n2↔¬0<n3))∨(Zm.Kind c=3∧Zob (Zm.Yw c)=1∧(Zm.Truth c).length=0∧0<n1∧0<n2∧¬0<n3):=by
          unfold Zgz
          rw [c1',c2',c3']
          constructor
          · rintro (hh | hh | hh)
            · exact absurd hh.1 k1
            · exact .inl hh
            · exact .inr hh
          · rintro (hh | hh)
            · exact .inr (.inl hh)
            · exact .inr (.inr hh)
        by_cases k2:Zm.Kind c=2
        · rw [if_pos k2]
          split
          · split
            · split
              · rename_i a b d
                refine hgoal _ ?_
                rw [hKO]
                simp only [beq_iff_eq,decide_eq_decide] at d
                constructor
                · intro hh;cases hh
                · intro hh;omega
              · rename_i a b d
                refine hgoal _ ?_
                rw [hKO,decide_eq_true_eq]
                simp only [beq_iff_eq,decide_eq_decide] at d
                omega
            · refine hgoal _ ?_
              rw [hKO]
              constructor
              · intro hh;cases hh
              · intro hh;omega
          · refine hgoal _ ?_
            rw [hKO]
            constructor
            · intro hh;cases hh
            · intro hh;omega
        rw [if_neg k2]
        repeat' split
        all_goals
          refine hgoal _ ?_
          rw [hKO]
          first
            | (rw [decide_eq_true_eq];omega)
            | (constructor
               · intro hh;cases hh
               · intro hh;omega))]
    congr 1
    by_cases hA:ZeY (Zm.JQ c) (fun k a=>ZmE c a∧Apart (Zm.JQ c) k a)
    · rw [YS hA];exact YB ⟨fun x=>⟨hA,x⟩,fun x=>x.2⟩
    · rw [YH hA,ZQ (fun x=>hA x.1)]
  · unfold ZlX
    constructor
    · rintro ⟨a,b,c1,d,e,f⟩
      exact ⟨a,hp,⟨by omega,e⟩,c1,d,f⟩
    · rintro ⟨a,b,⟨c1,d⟩,e,f,g⟩
      exact ⟨a,by omega,e,f,d,g⟩
/-
  Plain laws: libraries; names of a design.
-/
theorem ZuZ {α:Type} {l:List α} {k:Nat} {s:α}:s ∉ l.take k↔∀ (j:Nat) (q:α),j<k→l[j]?=some q→q≠s:=by
  constructor
  · intro h j q hj hq e
    refine h (List.mem_iff_getElem?.2 ⟨j,?_⟩)
    rw [List.getElem?_take,if_pos hj,hq,e]
  · intro h hm
    obtain ⟨j,hj⟩:=List.mem_iff_getElem?.1 hm
    rw [List.getElem?_take] at hj
    split at hj
    · rename_i hjk;exact h j s hjk hj rfl
    · cases hj
theorem ZoN {α:Type} (f:α→List UInt8) (l:List α):X7 (l.map f) l.length↔ZeY l (fun k x=>VW (f x)=true∧∀ (j:Nat) (q:α),j<k→l[j]?=some q→f q≠f x):=by
  constructor
  · intro h k x hx
    have hk:=(List.getElem?_eq_some_iff.1 hx).1
    obtain ⟨h1,h2⟩:=h k (f x) hk (by simp [hx])
    refine ⟨h1,fun j q hj hq=>ZuZ.1 h2 j (f q) hj (by simp [hq])⟩
  · intro h j s hj hs
    simp only [List.getElem?_map,Option.map_eq_some_iff] at hs
    obtain ⟨x,hx,rfl⟩:=hs
    obtain ⟨h1,h2⟩:=h j x hx
    refine ⟨h1,ZuZ.2 (fun i q hi hq=>?_)⟩
    simp only [List.getElem?_map,Option.map_eq_some_iff] at hq
    obtain ⟨y,hy,rfl⟩:=hq
    exact h2 i y hi hy
def Zhs (l:List Zm):List (List UInt8):=l.map Zm.Name
def Ztv (a:Zo):Prop:=(Zo.Cells a).length≤8∧(∀ c∈Zo.Cells a,ZlX c)∧X7 (Zhs (Zo.Cells a)) (Zo.Cells a).length
theorem Zqk {a:Zo} (h:sm Xh a):sm (.sl QL) (Zo.Cells a):=h.1
theorem V9 {α:Type} {l:List α} {P:α→Prop}:ZeY l (fun _ x=>P x)↔∀ x∈l,P x:=by
  constructor
  · intro h x hx
    obtain ⟨k,hk⟩:=List.mem_iff_getElem?.1 hx
    exact h k x hk
  · intro h k x hk
    exact h x (List.mem_of_getElem? hk)
theorem ZdB {P Q:Prop}:sel P (tr Q) false=tr (P∧Q):=by
  by_cases h:P
  · rw [YS h];exact YB ⟨fun q=>⟨h,q⟩,fun q=>q.2⟩
  · rw [YH h,ZQ (fun q=>h q.1)]
theorem Znr (a:Zo) (h:sm Xh a):Zeq a=some (tr (Ztv a)):=by
  have hc:=Zqk h
  have hs:=Zp hc
  unfold Zeq
  have:=ZgW (l:=Zo.Cells a) (ρ:=Bool) (fun k=>((Zhs (Zo.Cells a)).take k,(k:Int),())) (fun _ c=>ZlX c) (step:=fun v=>Q8 a v.1 v.2.1) (bad:=false) (good:=tr ((Zo.Cells a).length≤8∧X7 (Zhs (Zo.Cells a)) (Zo.Cells a).length))
    (fun k c hx hk _=>by
      have hn:(Zhs (Zo.Cells a))[k]?=some (Zm.Name c):=by simp [Zhs,hx]
      simp only [Q8,show (k:Int)<((Zo.Cells a).length:Int) from by omega,if_true,Zu,hx,Bq,ZpT c (QV hc hx)]
      rw [Zi (by simp only [List.length_take,List.length_singleton,Zhs,List.length_map];omega),Z8 hn,Xx (by omega)]
      constructor
      · intro hh;rw [if_pos (Yb hh)]
      · intro hh;rw [if_neg (by rw [ZQ hh];simp)])
    (fun hA=>by
      have e0:(Zhs (Zo.Cells a)).take (Zo.Cells a).length=Zhs (Zo.Cells a):=by rw [show (Zo.Cells a).length=(Zhs (Zo.Cells a)).length by simp [Zhs],List.take_length]
      have hlen:(Zhs (Zo.Cells a)).length=(Zo.Cells a).length:=by simp [Zhs]
      simp only [Q8,Int.lt_irrefl,if_false,e0]
      by_cases h8:(Zo.Cells a).length≤8
      · rw [if_pos (by omega),QY _ (by rw [hlen];omega),Bq,hlen]
        congr 2
        exact YB ⟨fun q=>⟨h8,q⟩,fun q=>q.2⟩
      · rw [if_neg (by omega),ZQ (fun q=>h8 q.1)])
  refine (show Zv (fun v=>Q8 a v.1 v.2.1) (([]:List (List UInt8)),(0:Int),())=_ from this).trans ?_
  rw [ZdB]
  congr 1
  refine YB ?_
  rw [V9]
  exact ⟨fun q=>⟨q.2.1,q.1,q.2.2⟩,fun q=>⟨q.2.1,q.1,q.2.2⟩⟩
theorem ZkY {α ρ:Type} {f:α→List UInt8} {l:List α} {x:α} {k:Nat} (hk:k≤1048576) (hkl:k≤l.length) {step:Int×Unit→Option ((Int×Unit) ⊕ ρ)} {bad good:ρ}
    (hs:∀ (j:Nat) (y:α),j<k→l[j]?=some y→step ((j:Int),())=some (if f y=f x then .inr bad else .inl (Wq ((j:Int)+1),())))
    (hx:step ((k:Int),())=some (.inr good)):Zv step ((0:Int),())=some (sel (∀ (j:Nat) (q:α),j<k→l[j]?=some q→f q≠f x) good bad):=by
  rw [ZpP k (by omega) (fun j=>∀ q,l[j]?=some q→f q≠f x) (bad:=bad) (good:=good) (fun j hj=>by
    have hjl:l[j]?=some l[j]:=List.getElem?_eq_getElem (by omega)
    rw [hs j _ hj hjl]
    constructor
    · intro hh;rw [if_neg (hh _ hjl)]
    · intro hh
      rw [if_pos]
      apply Classical.byContradiction
      intro hne
      refine hh (fun q hq=>?_)
      rw [hjl] at hq;injection hq with hq;subst hq;exact hne) (fun _=>hx)]
  congr 1
  have e:(∀ j,j<k→∀ q,l[j]?=some q→f q≠f x)↔(∀ (j:Nat) (q:α),j<k→l[j]?=some q→f q≠f x):=⟨fun h j q hj hq=>h j hj q hq,fun h j hj q hq=>h j q hj hq⟩
  rw [propext e]
theorem Znl (a:Zo) (h:sm Xh a):Zen a=some (tr (Ztv a)):=by
  have hc:=Zqk h
  have hs:=Zp hc
  unfold Zen
  rw [Qs (YL hc) (fun k c=>ZlX c∧∀ (j:Nat) (q:Zm),j<k→(Zo.Cells a)[j]?=some q→Zm.Name q≠Zm.Name c) (bad:=false) (good:=tr ((Zo.Cells a).length≤8))
    (fun k c hx hk _=>by
      simp only [Zb6,show (k:Int)<((Zo.Cells a).length:Int) from by omega,if_true,Zu,hx,Bq,Zp3 c (QV hc hx)]
      by_cases hC:ZlX c
      · rw [if_pos (Yb hC),ZkY (f:=Zm.Name) (l:=Zo.Cells a) (x:=c) (k:=k) (by omega) (by omega) (bad:=.inr false) (good:=.inl (Wq ((k:Int)+1),()))
          (fun j y hj hy=>by
            simp only [Zb0,show (j:Int)<(k:Int) from by omega,if_true,Zu,hy,Bq]
            split<;>rfl)
          (by simp only [Zb0,Int.lt_irrefl,if_false])]
        constructor
        · intro hh;rw [YS hh.2]
        · intro hh;rw [YH (fun q=>hh ⟨hC,q⟩)]
      · rw [if_neg (by rw [ZQ hC];simp)]
        exact ⟨fun hh=>absurd hh.1 hC,fun _=>rfl⟩)
    (fun _=>by
      simp only [Zb6,Int.lt_irrefl,if_false]
      congr 2
      exact (ZlV (by rw [decide_eq_true_eq];omega)).symm)]
  rw [ZdB]
  congr 1
  refine YB ?_
  unfold Ztv
  rw [Zhs,ZoN,←V9]
  constructor
  · rintro ⟨q,q8⟩
    exact ⟨q8,fun k x hx=>(q k x hx).1,fun k x hx=>⟨(q k x hx).1.1,(q k x hx).2⟩⟩
  · rintro ⟨q8,q1,q2⟩
    exact ⟨fun k x hx=>⟨q1 k x hx,(q2 k x hx).2⟩,q8⟩
theorem ZeZ (l:List (List UInt8)) (hl:l.length≤1048576) (hsm:∀ s∈l,s.length≤4611686018427387904):ZbO l=some (tr (X7 l l.length)):=by
  unfold ZbO
  rw [Qs (show Len l by show l.length≤4611686018427387904;omega) (fun k s=>VW s=true∧∀ (j:Nat) (q:List UInt8),j<k→l[j]?=some q→id q≠id s) (bad:=false) (good:=true)
    (fun k s hx hk _=>by
      simp only [ZcS,show (k:Int)<(l.length:Int) from by omega,if_true,Zu,hx,Bq,JL s (hsm s (List.mem_of_getElem? hx))]
      by_cases hC:VW s=true
      · rw [if_pos hC,ZkY (f:=id) (l:=l) (x:=s) (k:=k) (by omega) (by omega) (bad:=.inr false) (good:=.inl (Wq ((k:Int)+1),()))
          (fun j y hj hy=>by
            simp only [ZcC,show (j:Int)<(k:Int) from by omega,if_true,Zu,hy,Bq,id]
            split<;>rfl)
          (by simp only [ZcC,Int.lt_irrefl,if_false])]
        constructor
        · intro hh;rw [YS hh.2]
        · intro hh;rw [YH (fun q=>hh ⟨hC,q⟩)]
      · rw [if_neg hC]
        exact ⟨fun hh=>absurd hh.1 hC,fun _=>rfl⟩)
    (fun _=>by simp only [ZcS,Int.lt_irrefl,if_false]),Zl5]
  congr 1
  refine YB ?_
  have:=ZoN id l
  rw [List.map_id] at this
  exact this.symm
def Zaa (d:Zb):List (List UInt8):=(Zb.Instances d).map Ze.Name
def Zb1 (d:Zb):List (List UInt8):=(Zb.ZG d).map ZR.Name
def Zmb (d:Zb):Prop:=(Zb.Instances d).length≤14∧(Zb.ZI d).length≤30∧(Zb.ZG d).length≤8∧X7 (Zaa d) (Zaa d).length∧X7 (Zb.ZI d) (Zb.ZI d).length∧X7 (Zb1 d) (Zb1 d).length
theorem gather {α ρ:Type} {l:List α} (hl:l.length≤1048576) (f:α→List UInt8) {step:List (List UInt8)×Int×Unit→Option ((List (List UInt8)×Int×Unit) ⊕ ρ)} {good:ρ}
    (hs:∀ (k:Nat) (x:α) (o:List (List UInt8)),l[k]?=some x→(k:Int)<(l.length:Int)→o.length=k→step (o,(k:Int),())=Zt ((o.length+[f x].length)*16≤140737488355328) (some (.inl (o++[f x],Wq ((k:Int)+1),()))))
    (hx:step (l.map f,(l.length:Int),())=some (.inr good)):Zv step (([]:List (List UInt8)),(0:Int),())=some good:=by
  refine (show Zv step (([]:List (List UInt8)),(0:Int),())=some good from Yk (l:=l) (fun k=>((l.map f).take k,(k:Int),())) (fun k x hx hk=>?_) ?_)
  · have hn:(l.map f)[k]?=some (f x):=by simp [hx]
    have hlen:((l.map f).take k).length=k:=by rw [List.length_take,List.length_map];omega
    rw [hs k x _ hx (by omega) hlen,Zi (by rw [hlen];simp;omega),Z8 hn,Xx (by omega)]
  · have e0:(l.map f).take l.length=l.map f:=by rw [show l.length=(l.map f).length by simp,List.take_length]
    simp only [e0]
    exact hx
end Go.Proofs.YthkhedimjmkifaaGreatDoor
