/-
  Plain laws: clocks, their waves, roots, periods; which clocks are valid.
-/
import Derived.Test.YtpiemlnhjobopaaGreatDoorLA
namespace Go.Proofs.YtpiemlnhjobopaaGreatDoor
set_option linter.unusedVariables false
set_option linter.unusedSimpArgs false
open Go Go.Sx
structure Wv where
  period:Int
  rise:Int
  fall:Int
def ZtM (c:Zb) (w:Wv):Wv :=
  let w1:Wv:=if 1<Zb.Divide c then ⟨Wq (Zb.Divide c*w.period),w.rise,Wq (w.rise+Wq (Wq ((Zb.Divide c).tdiv 2)*w.period))⟩ else w
  if Zb.Zdy c=true then ⟨w1.period,w1.fall,w1.rise⟩ else w1
def Zrn (l:List Zb):Nat→Int→Wv
  | 0,_=>⟨0,0,0⟩
  | n+1,k=>match l[k.toNat]? with
    | none=>⟨0,0,0⟩
    | some c=>if Zb.Source c<0 then ⟨Zb.YE c,Zb.Y7 c,Zb.Xv c⟩ else ZtM c (Zrn l n (Zb.Source c))
def Zfh (l:List Zb) (k:Int):Wv:=Zrn l (k.toNat+1) k
def Zrv (l:List Zb) (m:Int):Prop:=∀ (j:Nat) (c:Zb),(j:Int)<m→l[j]?=some c→Zb.Source c<(j:Int)
theorem ZkK (l:List Zb):∀ (n:Nat) (k:Int),0≤k→k<n→Zrv l (k+1)→Zrn l n k=Zfh l k
  | 0,k,h0,h1,_=>by omega
  | n+1,k,h0,h1,hs=>by
    unfold Zfh
    simp only [Zrn]
    cases hc:l[k.toNat]? with
    | none=>rfl
    | some c =>
      simp only
      split
      · rfl
      · rename_i hsrc
        have hlt:=hs k.toNat c (by omega) hc
        have hs':Zrv l (Zb.Source c+1):=fun j c' hj hc'=>hs j c' (by omega) hc'
        have e1:=ZkK l n (Zb.Source c) (by omega) (by omega) hs'
        rw [e1]
        have:∀ m:Nat,Zb.Source c<m→m<n+1→Zrn l m (Zb.Source c)=Zfh l (Zb.Source c):=fun m hm hmn=>ZkK l m (Zb.Source c) (by omega) hm hs'
        by_cases hk:k.toNat<n+1∧Zb.Source c<(k.toNat:Int)
        · rw [this k.toNat hk.2 hk.1]
        · omega
  termination_by n=>n
theorem ZsT (l:List Zb) (k:Int) (h0:0≤k) (c:Zb) (hc:l[k.toNat]?=some c) (hs:Zrv l (k+1)) :
    Zfh l k=if Zb.Source c<0 then ⟨Zb.YE c,Zb.Y7 c,Zb.Xv c⟩ else ZtM c (Zfh l (Zb.Source c)):=by
  unfold Zfh
  rw [Zrn,hc]
  simp only
  split
  · rfl
  · rename_i hsrc
    have hlt:=hs k.toNat c (by omega) hc
    rw [ZkK l k.toNat (Zb.Source c) (by omega) hlt (fun j c' hj hc'=>hs j c' (by omega) hc')]
    rfl
def wvI (w:Wv):Zbc:=(w.period,(w.rise,w.fall,()),())
def wvS (w:Wv):Yw:=(w.period,w.rise,w.fall,())
def Zpf (l:List Zb) (k:Int):Prop:=0≤k∧k<l.length∧Zrv l (k+1)
theorem Zdr (l:List Zb):∀ (n:Nat) (k:Int),Zpf l k→(∀ r,V6 n l k=some r→r=wvI (Zfh l k))∧(k<n→V6 n l k=some (wvI (Zfh l k)))
  | 0,k,hp=>⟨fun r h=>by simp [V6] at h,fun h=>by have:=hp.1;omega⟩
  | n+1,k,hp=>by
    obtain ⟨h0,h1,h2⟩:=hp
    obtain ⟨c,hc,hc'⟩:=ZlV h0 h1
    have hw:=ZsT l k h0 c hc' h2
    simp only [V6,Jf,hc,Bq]
    split
    · rename_i hs
      rw [if_pos hs] at hw
      rw [hw]
      exact ⟨fun r h=>by injection h with h;exact h.symm,fun _=>rfl⟩
    · rename_i hs
      rw [if_neg hs] at hw
      have hlt:=h2 k.toNat c (by omega) hc'
      have ih:=Zdr l n (Zb.Source c) ⟨by omega,by omega,fun j d hj hd=>h2 j d (by omega) hd⟩
      have fin:∀ o:Option Zbc,(∀ r,o=some r→r=wvI (Zfh l (Zb.Source c)))→∀ F:Zbc→Option Zbc,F (wvI (Zfh l (Zb.Source c)))=some (wvI (Zfh l k))→(∀ r,o.bind F=some r→r=wvI (Zfh l k))∧(o≠none→o.bind F=some (wvI (Zfh l k))):=by
        intro o ho F hF
        cases o with
        | none=>exact ⟨fun r h=>(by cases h),fun h=>absurd rfl h⟩
        | some x =>
          have:=ho x rfl
          subst this
          rw [Bq,hF]
          exact ⟨fun r h=>by injection h with h;exact h.symm,fun _=>rfl⟩
      refine And.imp_right (fun h2 hk=>h2 (by rw [ih.2 (by omega)];simp)) (fin _ ih.1 _ ?_)
      rw [hw]
      simp only [ZtM,wvI]
      split<;>split<;>simp [*]
theorem Zff {l:List Zb} {k:Int} (hp:Zpf l k):ZcD l k=some (wvI (Zfh l k)) :=
  Zsx ⟨k.toNat+1,(Zdr l _ k hp).2 (by have:=hp.1;omega)⟩ (fun n r h=>(Zdr l n k hp).1 r h)
theorem Zet (l:List Zb):∀ (n:Nat) (k:Int),Zpf l k→(∀ r,Zac n l k=some r→r=wvS (Zfh l k))∧(k<n→Zac n l k=some (wvS (Zfh l k)))
  | 0,k,hp=>⟨fun r h=>by simp [Zac] at h,fun h=>by have:=hp.1;omega⟩
  | n+1,k,hp=>by
    obtain ⟨h0,h1,h2⟩:=hp
    obtain ⟨c,hc,hc'⟩:=ZlV h0 h1
    have hw:=ZsT l k h0 c hc' h2
    simp only [Zac,Zab,hc,Bq]
    split
    · rename_i hs
      rw [if_pos hs] at hw
      rw [hw]
      exact ⟨fun r h=>by injection h with h;exact h.symm,fun _=>rfl⟩
    · rename_i hs
      rw [if_neg hs] at hw
      have hlt:=h2 k.toNat c (by omega) hc'
      have ih:=Zet l n (Zb.Source c) ⟨by omega,by omega,fun j d hj hd=>h2 j d (by omega) hd⟩
      have fin:∀ o:Option Yw,(∀ r,o=some r→r=wvS (Zfh l (Zb.Source c)))→∀ F:Yw→Option Yw,F (wvS (Zfh l (Zb.Source c)))=some (wvS (Zfh l k))→(∀ r,o.bind F=some r→r=wvS (Zfh l k))∧(o≠none→o.bind F=some (wvS (Zfh l k))):=by
        intro o ho F hF
        cases o with
        | none=>exact ⟨fun r h=>(by cases h),fun h=>absurd rfl h⟩
        | some x =>
          have:=ho x rfl
          subst this
          rw [Bq,hF]
          exact ⟨fun r h=>by injection h with h;exact h.symm,fun _=>rfl⟩
      refine And.imp_right (fun h2 hk=>h2 (by rw [ih.2 (by omega)];simp)) (fin _ ih.1 _ ?_)
      rw [hw]
      simp only [ZtM,wvS]
      split<;>split<;>simp [*,Int.mul_comm]
theorem Zgx {l:List Zb} {k:Int} (hp:Zpf l k):Zd4 l k=some (wvS (Zfh l k)) :=
  Zsx ⟨k.toNat+1,(Zet l _ k hp).2 (by have:=hp.1;omega)⟩ (fun n r h=>(Zet l n k hp).1 r h)
def ZiO (c:Zb):Bool:=decide (0≤Zb.Place c)&&decide (0≤Zb.Yk c)&&decide (Zb.Yk c≤Zb.YZ c)&&decide (Zb.YZ c≤100000)&&within (Zb.JK c) 0 100000
def ZkW (c:Zb):Bool:=within (Zb.YE c) 2 100000&&within (Zb.Y7 c) 0 (Wq (Zb.YE c-1))&&within (Zb.Xv c) 0 (Wq (Zb.YE c-1))&&decide (Zb.Y7 c≠Zb.Xv c)&&decide (Zb.Divide c=1)&&!Zb.Zdy c
def Zui (l:List Zb) (k:Int) (c:Zb):Bool:=within (Zb.Source c) 0 (Wq (k-1))&&within (Zb.Divide c) 1 8&&decide (Zb.YE c=0)&&decide (Zb.Y7 c=0)&&decide (Zb.Xv c=0)&&decide ((Zfh l k).period≤100000)
def ZfI (l:List Zb) (k:Int) (c:Zb):Bool:=ZiO c&&(if Zb.Source c=-1 then ZkW c else Zui l k c)
theorem Zj3 (c:Zb):Vu c=some (ZkW c):=by
  unfold Vu
  simp only [Qu,Bq]
  repeat' split
  all_goals simp [ZkW, *]
theorem ZjN (c:Zb):Zcn c=some (ZkW c):=by
  unfold Zcn
  simp only [Vj,Bq]
  repeat' split
  all_goals simp [ZkW, *]
theorem ZtB (c:Zb):ZiO c=(decide (0≤Zb.Place c)&&within (Zb.Yk c) 0 100000&&within (Zb.YZ c) (Zb.Yk c) 100000&&within (Zb.JK c) 0 100000):=by
  rw [Bool.eq_iff_iff]
  simp only [ZiO,within,Bool.and_eq_true,decide_eq_true_eq]
  omega
theorem ZlE (c:Zb) (hl:(Zb.Name c).length≤4611686018427387904):ZdW c=some (VO (Zb.Name c)&&ZiO c):=by
  unfold ZdW
  rw [Zaa _ hl,ZtB]
  simp only [Vj,Bq]
  repeat' split
  all_goals simp [*]
def ZoT (l:List Zb) (m:Int):Prop:=∀ (j:Nat) (c:Zb),(j:Int)<m→l[j]?=some c→ZfI l j c=true
theorem ZpK {l:List Zb} {k:Nat} {c:Zb} (h:ZfI l k c=true) (hk:(k:Int)≤1000000):Zb.Source c=-1∨0≤Zb.Source c∧Zb.Source c<k:=by
  unfold ZfI at h
  simp only [Bool.and_eq_true] at h
  split at h
  · exact .inl (by assumption)
  · have h2:=h.2
    unfold Zui at h2
    simp only [within,Bool.and_eq_true,decide_eq_true_eq] at h2
    rw [Vq (by omega) (by omega)] at h2
    omega
theorem ZoT.src {l:List Zb} {m:Int} (h:ZoT l m) (hm:m≤1000000):Zrv l m:=by
  intro j c hj hc
  have:=ZpK (h j c hj hc) (by omega)
  omega
theorem ZnP {l:List Zb} {k:Int} {c:Zb} (h0:0≤k) (h1:k<l.length) (hk:k≤1000) (h:ZoT l k) (hc:l[k.toNat]?=some c) (hs:Zb.Source c<k):Zpf l k:=by
  refine ⟨h0,h1,fun j d hj hd=>?_⟩
  by_cases hjk:(j:Int)<k
  · exact h.src (by omega) j d hjk hd
  · have:j=k.toNat:=by omega
    subst this
    rw [hc] at hd;injection hd with hd;subst hd
    omega
theorem Zn7 {s k:Int} (hk0:0≤k) (hk:k≤1000) (h:within s 0 (Wq (k-1))=true):0≤s∧s<k:=by
  rw [within_iff,Vq (by omega) (by omega)] at h
  omega
theorem ZqV (l:List Zb) (k:Int) (c:Zb):ZfI l k c=(decide (0≤Zb.Place c)&&decide (0≤Zb.Yk c)&&decide (Zb.Yk c≤Zb.YZ c)&&decide (Zb.YZ c≤100000)&&within (Zb.JK c) 0 100000 &&
    (if Zb.Source c=-1 then ZkW c else within (Zb.Source c) 0 (Wq (k-1))&&within (Zb.Divide c) 1 8&&decide (Zb.YE c=0)&&decide (Zb.Y7 c=0)&&decide (Zb.Xv c=0)&&decide ((Zfh l k).period≤100000))):=rfl
theorem Zmc {l:List Zb} {k:Int} {c:Zb} (h0:0≤k) (h1:k<l.length) (hk:k≤1000) (h:ZoT l k) (hc:l[k.toNat]?=some c):ZeK l k=some (ZfI l k c):=by
  have hw:within (Zb.Source c) 0 (Wq (k-1))=true→ZcD l k=some (wvI (Zfh l k)):=fun hh=>Zff (ZnP h0 h1 hk h hc (Zn7 h0 hk hh).2)
  unfold ZeK
  rw [ZeC h0 hc,ZqV]
  clear h0 h1 hk h hc
  simp only [Qu,Bq,Zj3]
  generalize ZkW c=pr
  generalize Zb.Place c=v1 at *
  generalize Zb.Yk c=v2 at *
  generalize Zb.YZ c=v3 at *
  generalize Zb.JK c=v4 at *
  generalize Zb.Source c=v5 at *
  generalize Zb.Divide c=v6 at *
  generalize Zb.YE c=v7 at *
  generalize Zb.Y7 c=v8 at *
  generalize Zb.Xv c=v9 at *
  by_cases a1:v1<0
  · have:¬0≤v1:=by omega
    simp [a1,this]
  by_cases a2:v2<0
  · have:¬0≤v2:=by omega
    simp [a1,a2,this]
  by_cases a3:v3<v2
  · have:¬v2≤v3:=by omega
    simp [a1,a2,a3,this]
  by_cases a4:100000<v3
  · have:¬v3≤100000:=by omega
    simp [a1,a2,a3,a4,this]
  rw [if_neg a1,if_neg a2,if_neg a3,if_neg a4,decide_eq_true (show 0≤v1 by omega),decide_eq_true (show 0≤v2 by omega),decide_eq_true (show v2≤v3 by omega),decide_eq_true (show v3≤100000 by omega)]
  cases within v4 0 100000
  · simp
  simp only [if_true,Bool.true_and]
  by_cases a5:v5=-1
  · rw [if_pos a5,if_pos a5]
  rw [if_neg a5,if_neg a5]
  cases hw5:within v5 0 (Wq (k-1))
  · simp
  rw [hw hw5]
  simp only [if_true,Bool.true_and]
  cases within v6 1 8
  · simp
  by_cases a7:v7=0
  · by_cases a8:v8=0
    · by_cases a9:v9=0
      · simp [a7,a8,a9,wvI]
      · simp [a7,a8,a9]
    · simp [a7,a8]
  · simp [a7]
def ZgD (l:List Zb):List (List UInt8):=l.map Zb.Name
def ZfE (l:List Zb):Prop:=l.length≤6∧ZoT l l.length∧Qp (ZgD l) l.length
theorem Zk8 (l:List Zb):ZdH l=some (tr (ZfE l)):=by
  unfold ZdH
  split
  · rename_i h
    rw [ZK]
    intro hh
    have:=hh.1
    omega
  · rename_i h6
    refine YJ l.length (fun k v=>v.2.1=(k:Int)∧v.1=ZgD (l.take k)∧ZoT l k) _ ⟨rfl,rfl,fun j s hj=>by omega⟩ ?_ ?_
    · rintro k ⟨ns,i,⟨⟩⟩ hk ⟨hi,hns,hS⟩
      simp only at hi hns
      subst hi
      have hx:l[k]?=some l[k]:=List.getElem?_eq_getElem hk
      generalize l[k]=x at hx
      simp only [Zbg,Zt,hx,Bq,show (k:Int)<(l.length:Int) from by omega,if_true,Vq (show (-9223372036854775808:Int)≤(k:Int)+1 by omega) (by omega)]
      rw [Zmc (by omega) (by omega) (by omega) hS (by simpa using hx),Bq]
      split
      · rename_i hok
        have hlen:ns.length=k:=by rw [hns];simp [ZgD];omega
        rw [Zj (by simp only [List.length_singleton];omega)]
        refine .inl ⟨_,rfl,by simp,by rw [hns,YP hx];simp [ZgD],fun j d hj hd=>?_⟩
        by_cases e:(j:Int)<k
        · exact hS j d e hd
        · have:j=k:=by omega
          subst this
          rw [hx] at hd;injection hd with hd;subst hd
          exact hok
      · rename_i hok
        right
        rw [ZK]
        intro hh
        exact hok (hh.2.1 k x (by omega) hx)
    · rintro ⟨ns,i,⟨⟩⟩ ⟨hi,hns,hS⟩
      simp only at hi hns
      subst hi
      rw [List.take_length] at hns
      have hlen:(ZgD l).length=l.length:=by simp [ZgD]
      subst hns
      simp only [Zbg,Int.lt_irrefl,if_false]
      rw [Qa _ (by omega),Bq,hlen]
      congr 2
      by_cases hN:Qp (ZgD l) l.length
      · rw [Yl hN,Yl ⟨by omega,hS,hN⟩]
      · rw [ZK hN,ZK (fun hh=>hN hh.2.2)]
/-
  Plain laws: the reference's valid clocks; codes; the waves of valid clocks.
-/
def ZtV (l:List Zb):Prop:=∀ c∈l,(Zb.Name c).length≤4611686018427387904
theorem ZhC {l:List Zb} {k:Nat} {c:Zb} (h:l[k]?=some c):(ZgD l)[k]?=some (Zb.Name c):=by simp [ZgD,h]
theorem ZiS {l:List Zb} {k:Nat} {c:Zb} (hk:k<l.length) (h6:l.length≤6) (hc:l[k]?=some c) (hpre:ZoT l k) (hpl:ZiO c=true) :
    Zr (fun v=>Ja l (k:Int) c v.1) ((0:Int),()) =
      some (if Zb.Name c∈(ZgD l).take k then .inr false else if ZfI l k c=true then .inl ((k:Int)+1,()) else .inr false):=by
  refine YJ k (fun m v=>v.1=(m:Int)∧Zb.Name c ∉ (ZgD l).take m) _ ⟨rfl,by simp⟩ ?_ ?_
  · rintro m ⟨i,⟨⟩⟩ hm ⟨hi,hn⟩
    simp only at hi
    subst hi
    have hx:l[m]?=some l[m]:=List.getElem?_eq_getElem (by omega)
    generalize l[m]=x at hx
    have hxn:=ZhC hx
    simp only [Ja,Zt,hx,Bq,show (m:Int)<(k:Int) from by omega,if_true,Vq (show (-9223372036854775808:Int)≤(m:Int)+1 by omega) (by omega)]
    split
    · rename_i e
      right
      rw [if_pos]
      rw [←e]
      refine List.mem_iff_getElem?.2 ⟨m,?_⟩
      rw [List.getElem?_take,if_pos hm,hxn]
    · rename_i e
      refine .inl ⟨_,rfl,by simp,?_⟩
      rw [YP hxn]
      simp only [List.mem_append,List.mem_singleton,not_or]
      exact ⟨hn,fun h=>e h.symm⟩
  · rintro ⟨i,⟨⟩⟩ ⟨hi,hn⟩
    simp only at hi
    subst hi
    have hw:within (Zb.Source c) 0 (Wq ((k:Int)-1))=true→Zd4 l k=some (wvS (Zfh l k)):=fun hh =>
      Zgx (ZnP (by omega) (by omega) (by omega) hpre (by simpa using hc) (Zn7 (by omega) (by omega) hh).2)
    rw [if_neg hn]
    simp only [Ja,Int.lt_irrefl,if_false,ZjN,Vj,Bq,Vq (show (-9223372036854775808:Int)≤(k:Int)+1 by omega) (by omega)]
    have e:ZfI l k c=(ZiO c&&_):=rfl
    rw [e,hpl,Bool.true_and]
    by_cases a1:Zb.Source c=-1
    · rw [if_pos a1,if_pos a1]
      cases ZkW c<;>simp
    rw [if_neg a1,if_neg a1]
    unfold Zui
    cases hw5:within (Zb.Source c) 0 (Wq ((k:Int)-1))
    · simp
    rw [hw hw5]
    simp only [if_true,Bool.true_and,Bq]
    cases within (Zb.Divide c) 1 8
    · simp
    by_cases a7:Zb.YE c=0
    · by_cases a8:Zb.Y7 c=0
      · by_cases a9:Zb.Xv c=0
        · by_cases a10:100000<(Zfh l k).period
          · have:¬(Zfh l k).period≤100000:=by omega
            simp [a7,a8,a9,wvS,a10,this]
          · have:(Zfh l k).period≤100000:=by omega
            simp [a7,a8,a9,wvS,a10,this]
        · simp [a7,a8,a9]
      · simp [a7,a8]
    · simp [a7]
theorem Zly (l:List Zb) (hn:ZtV l) (hl:l.length≤4611686018427387904):ZdQ l=some (tr (ZfE l)):=by
  unfold ZdQ
  refine YJ l.length (fun k v=>v.1=(k:Int)∧(0<k→l.length≤6)∧ZoT l k∧Qp (ZgD l) k) _ ⟨rfl,by omega,fun j s hj=>by omega,fun j s hj=>by omega⟩ ?_ ?_
  · rintro k ⟨i,⟨⟩⟩ hk ⟨hi,_,hS,hN⟩
    simp only at hi
    subst hi
    have hx:l[k]?=some l[k]:=List.getElem?_eq_getElem hk
    generalize l[k]=x at hx
    simp only [Zbp,Zt,hx,Bq,show (k:Int)<(l.length:Int) from by omega,if_true]
    split
    · rename_i h6
      have h6':l.length≤6:=by omega
      rw [ZlE _ (hn x (List.mem_of_getElem? hx)),Bq]
      split
      · rename_i hp
        simp only [Bool.and_eq_true] at hp
        rw [ZiS hk h6' hx hS hp.2]
        split
        · rename_i hm
          right
          rw [ZK]
          exact fun hh=>(hh.2.2 k (Zb.Name x) hk (ZhC hx)).2 hm
        · rename_i hm
          split
          · rename_i hok
            refine .inl ⟨_,rfl,by simp,fun _=>h6',fun j d hj hd=>?_,fun j s hj hs=>?_⟩
            · by_cases e:(j:Int)<k
              · exact hS j d e hd
              · have:j=k:=by omega
                subst this
                rw [hx] at hd;injection hd with hd;subst hd
                exact hok
            · by_cases e:j<k
              · exact hN j s e hs
              · have:j=k:=by omega
                subst this
                rw [ZhC hx] at hs;injection hs with hs;subst hs
                exact ⟨hp.1,hm⟩
          · rename_i hok
            right
            rw [ZK]
            exact fun hh=>hok (hh.2.1 k x (by omega) hx)
      · rename_i hp
        right
        rw [ZK]
        intro hh
        have h1:=(hh.2.2 k (Zb.Name x) hk (ZhC hx)).1
        have h2:=hh.2.1 k x (by omega) hx
        unfold ZfI at h2
        simp only [Bool.and_eq_true] at h2
        exact hp (by rw [h1,h2.1];rfl)
    · rename_i h6
      right
      rw [ZK (fun hh=>h6 (by have:=hh.1;omega))]
      simp [h6]
  · rintro ⟨i,⟨⟩⟩ ⟨hi,_,hS,hN⟩
    simp only at hi
    subst hi
    simp only [Zbp,Int.lt_irrefl,if_false]
    by_cases h6:(l.length:Int)≤6
    · rw [Yl ⟨by omega,hS,hN⟩,decide_eq_true h6]
    · rw [ZK (fun hh=>h6 (by have:=hh.1;omega)),decide_eq_false h6]
theorem ZqI {l:List Zb} {k:Int} (h:ZfE l) (h0:0≤k) (hk:k<l.length):Zpf l k :=
  ⟨h0,hk,fun j c hj hc=>h.2.1.src (by have:=h.1;omega) j c (by omega) hc⟩
/-
  Plain laws: lists of numbers, tables.
-/
theorem Zcw {a b:Bool} (h:a=true↔b=true):a=b:=by cases a<;>cases b<;>simp_all
theorem YI {P Q:Prop} (h:P↔Q):tr P=tr Q:=by rw [propext h]
def Inc (l:List Int):Prop:=∀ (k:Nat) (x y:Int),l[k]?=some x→l[k+1]?=some y→x<y
def Zg5 (l:List Int) (lo hi:Int):Prop:=∀ x∈l,lo≤x∧x≤hi
theorem Zi0 (l:List Int) (lo hi:Int):allIn l lo hi=true↔Zg5 l lo hi:=by
  unfold allIn Zg5
  rw [List.all_eq_true]
  simp only [within_iff]
theorem ZaH (l:List Int):Xm l=some (l.length:Int):=rfl
theorem ZaG (l:List Int) (hl:Len l):QB l=some (tr (Inc l)):=by
  unfold QB
  have h4:l.length≤4611686018427387904:=hl
  by_cases h0:l.length=0
  · have:l=[]:=List.eq_nil_of_length_eq_zero h0
    subst this
    rw [ZfC (r:=true) (by rfl)]
    have h0:Inc []:=fun k x y h=>by simp at h
    rw [Yl h0]
  have:=Zqy (ρ:=Bool) 1 l.length (by omega) h4 (fun k=>∀ x y,l[k-1]?=some x→l[k]?=some y→x<y) (step:=fun v=>Xy l v.1) (bad:=false) (good:=true)
    (fun k h1 h2 _=>by
      obtain ⟨x,hx⟩:∃ x,l[k-1]?=some x:=⟨_,List.getElem?_eq_getElem (by omega)⟩
      obtain ⟨y,hy⟩:∃ y,l[k]?=some y:=⟨_,List.getElem?_eq_getElem h2⟩
      have e1:Wq ((k:Int)-1)=((k-1:Nat):Int):=by rw [Vq (by omega) (by omega)];omega
      simp only [Xy,show (k:Int)<(l.length:Int) from by omega,if_true,e1,Zt,hx,hy,Bq]
      refine ⟨fun h=>?_,fun h=>?_⟩
      · have:=h x y rfl rfl
        rw [if_neg (by omega)]
      · rw [if_pos]
        rcases Int.lt_or_le x y with h' | h'
        · exact absurd (fun a b ha hb=>by injection ha with ha;injection hb with hb;subst ha;subst hb;exact h') h
        · exact h')
    (fun _=>by simp only [Xy,Int.lt_irrefl,if_false])
  refine (show Zr (fun v=>Xy l v.1) ((1:Int),())=_ from this).trans ?_
  rw [Zk1]
  congr 1
  refine YI ⟨fun h k x y hx hy=>?_,fun h j h1 h2 x y hx hy=>?_⟩
  · exact h (k+1) (by omega) (List.getElem?_eq_some_iff.1 hy).1 x y (by simpa using hx) hy
  · exact h (j-1) x y hx (by rw [show j-1+1=j by omega];exact hy)
def Zd5 (l:List Int):Prop:=1≤l.length∧l.length≤4∧Zg5 l 0 100000∧Inc l
theorem Zia (l:List Int) (hl:Len l):Zed l=some (tr (Zd5 l)):=by
  unfold Zed
  rw [ZaH,Bq,Qu,Bq,Zaq l _ _ hl,Bq,ZaG l hl,Bq]
  have e:tr (Zd5 l)=(within (l.length:Int) 1 4&&allIn l 0 100000&&tr (Inc l)):=by
    refine ZlF ?_
    simp only [Bool.and_eq_true,within_iff,Zi0,Qx,Zd5]
    exact ⟨fun ⟨⟨⟨a,b⟩,c⟩,d⟩=>⟨by omega,by omega,c,d⟩,fun ⟨a,b,c,d⟩=>⟨⟨⟨by omega,by omega⟩,c⟩,d⟩⟩
  rw [e]
  cases within (l.length:Int) 1 4<;>cases allIn l 0 100000<;>cases tr (Inc l)<;>rfl
theorem Zhx (l:List Int) (hl:Len l):Zdn l=some (tr (Zd5 l)):=by
  unfold Zdn
  have h4:l.length≤4611686018427387904:=hl
  rw [Qc hl (fun k x=>(0≤x∧x≤100000)∧(0<k→∀ y,l[k-1]?=some y→y<x)) (bad:=false) (good:=decide (1≤l.length∧l.length≤4))
    (fun k x hx hk _=>by
      simp only [Zck,show (k:Int)<(l.length:Int) from by omega,if_true,Zt,hx,Bq,Vj]
      by_cases hw:within x 0 100000=true
      · rw [if_pos hw]
        by_cases h0:0<k
        · obtain ⟨y,hy⟩:∃ y,l[k-1]?=some y:=⟨_,List.getElem?_eq_getElem (by omega)⟩
          have e1:Wq ((k:Int)-1)=((k-1:Nat):Int):=by rw [Vq (by omega) (by omega)];omega
          rw [if_pos (by omega),e1,Zt,hy,Bq]
          refine ⟨fun h=>?_,fun h=>?_⟩
          · rw [if_neg (by have:=h.2 h0 y rfl;omega)]
          · rw [if_pos]
            rcases Int.lt_or_le y x with h' | h'
            · exact absurd ⟨(within_iff _ _ _).1 hw,fun _ z hz=>by injection hz with hz;subst hz;exact h'⟩ h
            · exact h'
        · rw [if_neg (by omega)]
          exact ⟨fun _=>rfl,fun h=>absurd ⟨(within_iff _ _ _).1 hw,fun h'=>absurd h' h0⟩ h⟩
      · rw [if_neg hw]
        exact ⟨fun h=>absurd ((within_iff _ _ _).2 h.1) hw,fun _=>rfl⟩)
    (fun _=>by
      simp only [Zck,Int.lt_irrefl,if_false]
      by_cases h1:1≤l.length
      · rw [if_pos (by omega)]
        congr 2
        rw [decide_eq_decide];omega
      · rw [if_neg (by omega)]
        simp [h1])]
  congr 1
  refine Zcw ?_
  rw [Qx]
  by_cases h:Zev l (fun k x=>(0≤x∧x≤100000)∧(0<k→∀ y,l[k-1]?=some y→y<x))
  · rw [Y3 h,decide_eq_true_eq]
    constructor
    · rintro ⟨h1,h2⟩
      refine ⟨h1,h2,fun x hx=>?_,fun k x y hx hy=>?_⟩
      · obtain ⟨k,hk⟩:=List.mem_iff_getElem?.1 hx
        exact (h k x hk).1
      · exact (h (k+1) y hy).2 (by omega) x (by simpa using hx)
    · intro hh
      exact ⟨hh.1,hh.2.1⟩
  · rw [YH h]
    constructor
    · intro hh;cases hh
    · intro hh
      refine absurd ?_ h
      intro k x hk
      refine ⟨hh.2.2.1 x (List.mem_of_getElem? hk),fun h0 y hy=>?_⟩
      exact hh.2.2.2 (k-1) y x hy (by rw [show k-1+1=k by omega];exact hk)
def Zcu (t:Zx):Prop:=Zd5 (Zx.ZhL t)∧Zd5 (Zx.Loads t)∧(Zx.Values t).length=(Zx.ZhL t).length*(Zx.Loads t).length∧Zg5 (Zx.Values t) (-1000000) 1000000
def Zvm (t:Zx):Prop:=Len (Zx.ZhL t)∧Len (Zx.Loads t)∧Len (Zx.Values t)
theorem Zd5.mul {a b:List Int} (ha:Zd5 a) (hb:Zd5 b):a.length*b.length≤16:=by
  have h1:=ha.2.1
  have h2:=hb.2.1
  calc a.length*b.length≤4*4:=Nat.mul_le_mul h1 h2
    _=16:=rfl
theorem ZqB {a b:List Int} (ha:Zd5 a) (hb:Zd5 b):Wq ((a.length:Int)*(b.length:Int))=((a.length*b.length:Nat):Int):=by
  have:=ha.mul hb
  have e:(a.length:Int)*(b.length:Int)=((a.length*b.length:Nat):Int):=by simp
  rw [e,Vq (by omega) (by omega)]
theorem Zl8 (t:Zx) (h:Zvm t):ZeH t=some (tr (Zcu t)):=by
  unfold ZeH
  rw [Zia _ h.1,Bq]
  by_cases h1:Zd5 (Zx.ZhL t)
  · rw [if_pos (Yl h1),Zia _ h.2.1,Bq]
    by_cases h2:Zd5 (Zx.Loads t)
    · rw [if_pos (Yl h2),ZqB h1 h2]
      by_cases h3:(Zx.Values t).length=(Zx.ZhL t).length*(Zx.Loads t).length
      · rw [if_pos (by rw [h3]),Zaq _ _ _ h.2.2,Bq]
        congr 1
        refine Zcw ?_
        rw [Zi0,Qx]
        exact ⟨fun h4=>⟨h1,h2,h3,h4⟩,fun h4=>h4.2.2.2⟩
      · rw [if_neg (by omega),ZK (fun hh=>h3 hh.2.2.1)]
    · rw [if_neg (by rw [ZK h2];simp),ZK (fun hh=>h2 hh.2.1)]
  · rw [if_neg (by rw [ZK h1];simp),ZK (fun hh=>h1 hh.1)]
theorem ZmZ (t:Zx) (h:Zvm t):Ze5 t=some (tr (Zcu t)):=by
  unfold Ze5
  rw [Zhx _ h.1,Bq]
  by_cases h1:Zd5 (Zx.ZhL t)
  · rw [if_pos (Yl h1),Zhx _ h.2.1,Bq]
    by_cases h2:Zd5 (Zx.Loads t)
    · rw [if_pos (Yl h2),ZqB h1 h2]
      by_cases h3:(Zx.Values t).length=(Zx.ZhL t).length*(Zx.Loads t).length
      · rw [if_pos (by rw [h3]),Qc h.2.2 (fun k x=>-1000000≤x∧x≤1000000) (bad:=false) (good:=true)
          (fun k x hx hk _=>by
            simp only [Zcj,show (k:Int)<((Zx.Values t).length:Int) from by omega,if_true,Zt,hx,Bq,Vj,within_iff]
            exact ⟨fun hh=>by rw [if_pos hh],fun hh=>by rw [if_neg hh]⟩)
          (fun _=>by simp only [Zcj,Int.lt_irrefl,if_false]),Zk1]
        congr 1
        refine YI ⟨fun h4=>⟨h1,h2,h3,fun x hx=>?_⟩,fun h4 k x hx=>h4.2.2.2 x (List.mem_of_getElem? hx)⟩
        obtain ⟨k,hk⟩:=List.mem_iff_getElem?.1 hx
        exact h4 k x hk
      · rw [if_neg (by omega),ZK (fun hh=>h3 hh.2.2.1)]
    · rw [if_neg (by rw [ZK h2];simp),ZK (fun hh=>h2 hh.2.1)]
  · rw [if_neg (by rw [ZK h1];simp),ZK (fun hh=>h1 hh.1)]
theorem ZoI (x:Int) (l:List Int) (hl:Len (x::l)):Qt (x::l)=some (l.foldl min x):=by
  unfold Qt
  have h4:(x::l).length≤4611686018427387904:=hl
  have e1:¬(((x::l).length:Int)<1):=by simp only [List.length_cons];omega
  have e2:atI (x::l) (0:Int)=some x:=rfl
  rw [if_neg e1,e2,Bq]
  refine YJ l.length (fun k v=>v.1=(l.take k).foldl min x∧v.2.1=(((k+1:Nat)):Int)) _ ⟨by simp,rfl⟩ ?_ ?_
  · rintro k ⟨m,i,⟨⟩⟩ hk ⟨hm,hi⟩
    simp only at hm hi
    subst hm;subst hi
    have hx:l[k]?=some l[k]:=List.getElem?_eq_getElem hk
    have hx1:(x::l)[k+1]?=some l[k]:=by simp
    simp only [Qe,Zt,hx1,Bq,show ((k+1:Nat):Int)<((x::l).length:Int) from by simp;omega,if_true]
    refine .inl ⟨_,rfl,?_,?_⟩
    · rw [YP hx,List.foldl_append];rfl
    · simp only [List.length_cons] at h4
      show Wq (((k+1:Nat):Int)+1)=((k+1+1:Nat):Int)
      rw [Vq (by omega) (by omega)];omega
  · rintro ⟨m,i,⟨⟩⟩ ⟨hm,hi⟩
    simp only at hm hi
    subst hm;subst hi
    rw [List.take_length]
    simp only [Qe,show ¬(((l.length+1:Nat):Int)<((x::l).length:Int)) from by simp,if_false]
theorem Zja (x:Int) (l:List Int):l.foldl min x<0↔x<0∨∃ y∈l,y<0:=by
  induction l generalizing x with
  | nil=>simp
  | cons y r ih =>
    simp only [List.foldl_cons,ih,List.mem_cons,exists_eq_or_imp]
    rw [show min x y<0↔x<0∨y<0 by omega,or_assoc]
def Zdc (l:List Zx) (pos:Bool):Prop:=l.length=2∧∀ t∈l,Zcu t∧(pos=true→∀ v∈Zx.Values t,0≤v)
theorem Zcu.some {t:Zx} (h:Zcu t):∃ x l,Zx.Values t=x::l:=by
  have h1:=h.1.1
  have h2:=h.2.1.1
  have h3:=h.2.2.1
  have:1*1≤(Zx.ZhL t).length*(Zx.Loads t).length:=Nat.mul_le_mul h1 h2
  cases hv:Zx.Values t with
  | nil=>rw [hv] at h3;simp at h3;omega
  | cons x l=>exact ⟨x,l,rfl⟩
theorem ZhP (t:Zx) (pos:Bool) (h:Zvm t):QA t pos=some (! tr (Zcu t∧(pos=true→∀ v∈Zx.Values t,0≤v))):=by
  unfold QA
  rw [Zl8 _ h,Bq]
  by_cases h1:Zcu t
  · rw [if_pos (Yl h1)]
    cases pos
    · rw [if_neg (by simp),Yl ⟨h1,fun e=>by cases e⟩];rfl
    · obtain ⟨x,l,hv⟩:=h1.some
      have hlen:=h.2.2
      rw [if_pos rfl,hv]
      rw [hv] at hlen
      rw [ZoI x l hlen,Bq]
      congr 1
      refine Zcw ?_
      rw [decide_eq_true_eq,Zja,Bool.not_eq_true',←Bool.not_eq_true,Qx]
      constructor
      · rintro (hh | ⟨y,hy,hh⟩) ⟨_,hall⟩
        · have:=hall rfl x (by simp);omega
        · have:=hall rfl y (by simp [hy]);omega
      · intro hh
        apply Classical.byContradiction
        intro hn
        refine hh ⟨h1,fun _ v hvm=>?_⟩
        rcases List.mem_cons.1 hvm with rfl | hvm
        · exact Int.not_lt.1 fun hlt=>hn (.inl hlt)
        · exact Int.not_lt.1 fun hlt=>hn (.inr ⟨v,hvm,hlt⟩)
  · rw [if_neg (by rw [ZK h1];simp),ZK (fun hh=>h1 hh.1)];rfl
def Zt1 (l:List Zx):Prop:=Len l∧∀ t∈l,Zvm t
theorem Zcz (l:List Zx) (pos:Bool) (h:Zt1 l):Jm l pos=some (tr (Zdc l pos)):=by
  unfold Jm
  by_cases h2:l.length=2
  · rw [if_pos (by omega),Xo h.1 (fun t=>! tr (Zcu t∧(pos=true→∀ v∈Zx.Values t,0≤v))) (fun t ht=>ZhP t pos (h.2 t ht)),Bq]
    congr 1
    refine Zcw ?_
    rw [Bool.not_eq_true',List.any_eq_false,Qx]
    simp only [Bool.not_eq_true',Bool.not_eq_false,Qx,Bool.not_eq_true]
    exact ⟨fun hh=>⟨h2,hh⟩,fun hh=>hh.2⟩
  · rw [if_neg (by omega),ZK (fun hh=>h2 hh.1)]
/-
  Plain laws: pins, arcs, cells.
-/
theorem Zgn {α τ ρ:Type} {l:List α} (pk:Nat→τ) (P:Nat→α→Prop) {step:τ→Option (τ ⊕ ρ)} {bad good:ρ}
    (hs:∀ (k:Nat) (x:α),l[k]?=some x→k<l.length→(∀ (j:Nat) (y:α),j<k→l[j]?=some y→P j y)→(P k x→step (pk k)=some (.inl (pk (k+1))))∧(¬P k x→step (pk k)=some (.inr bad)))
    (hx:Zev l P→step (pk l.length)=some (.inr good)):Zr step (pk 0)=some (sel (Zev l P) good bad):=by
  refine YJ l.length (fun k v=>v=pk k∧∀ (j:Nat) (y:α),j<k→l[j]?=some y→P j y) _ ⟨rfl,fun j y hj=>by omega⟩ ?_ ?_
  · rintro k v hk ⟨rfl,hS⟩
    have hx:l[k]?=some l[k]:=List.getElem?_eq_getElem hk
    obtain ⟨h1,h2⟩:=hs k _ hx hk hS
    by_cases hP:P k l[k]
    · refine .inl ⟨_,h1 hP,rfl,fun j y hj hy=>?_⟩
      by_cases hjk:j<k
      · exact hS j y hjk hy
      · have:j=k:=by omega
        subst this
        rw [hx] at hy;injection hy with hy;subst hy
        exact hP
    · right
      rw [h2 hP,YH (fun h=>hP (h k _ hx))]
  · rintro v ⟨rfl,hS⟩
    have hA:Zev l P:=fun k x hk=>hS k x (List.getElem?_eq_some_iff.1 hk).1 hk
    rw [hx hA,Y3 hA]
theorem J6 {α τ ρ:Type} {l:List α} (pk:Nat→τ) {step:τ→Option (τ ⊕ ρ)} {good:ρ}
    (hs:∀ (k:Nat) (x:α),l[k]?=some x→k<l.length→step (pk k)=some (.inl (pk (k+1)))) (hx:step (pk l.length)=some (.inr good)):Zr step (pk 0)=some good:=by
  have:=Zgn (l:=l) pk (fun _ _=>True) (step:=step) (bad:=good) (good:=good) (fun k x h1 h2 _=>⟨fun _=>hs k x h1 h2,fun h=>absurd trivial h⟩) (fun _=>hx)
  rw [this,Y3 (show Zev l (fun _ _=>True) from fun _ _ _=>trivial)]
theorem ZmG {ρ:Type} (n:Nat) (hn:n≤4611686018427387904) (P:Nat→Prop) {step:Int×Unit→Option ((Int×Unit) ⊕ ρ)} {bad good:ρ}
    (hs:∀ k:Nat,k<n→(P k→step ((k:Int),())=some (.inl (Wq ((k:Int)+1),())))∧(¬P k→step ((k:Int),())=some (.inr bad)))
    (hx:(∀ j,j<n→P j)→step ((n:Int),())=some (.inr good)):Zr step ((0:Int),())=some (sel (∀ j,j<n→P j) good bad):=by
  have:=Zqy (ρ:=ρ) 0 n (by omega) hn P (step:=step) (bad:=bad) (good:=good) (fun k _ h _=>hs k h) (fun h=>hx (fun j hj=>h j (by omega) hj))
  refine (show Zr step ((0:Int),())=_ from this).trans ?_
  congr 1
  have e:(∀ j,0≤j→j<n→P j)↔(∀ j,j<n→P j):=⟨fun h j hj=>h j (by omega) hj,fun h j _ hj=>h j hj⟩
  rw [propext e]
theorem Yv {t:Ty} {l:List t.den} (h:sm (.sl t) l):Len l:=by
  have h1:(l.length:Int)≤1048576:=h.1
  show l.length≤4611686018427387904
  omega
theorem Zeu {s:List UInt8} (h:sm .str s):s.length≤4611686018427387904:=by
  have h1:(s.length:Int)≤1048576:=h
  omega
theorem Zn2 {t:Ty} {l:List t.den} (h:sm (.sl t) l) {x:t.den} (hx:x∈l):sm t x:=h.2 x hx
theorem Zfx {t:Ty} {l:List t.den} (h:sm (.sl t) l) {k:Nat} {x:t.den} (hx:l[k]?=some x):sm t x:=h.2 x (List.mem_of_getElem? hx)
theorem Zw {t:Ty} {l:List t.den} (h:sm (.sl t) l):l.length≤1048576:=by
  have h1:(l.length:Int)≤1048576:=h.1
  omega
theorem Zrk {t:Zx} (h:sm YO t):Zvm t:=⟨Yv (t:=.int .i64) h.1,Yv (t:=.int .i64) h.2.1,Yv (t:=.int .i64) h.2.2.1⟩
theorem ZgA {l:List Zx} (h:sm (.sl YO) l):Zt1 l:=⟨Yv h,fun t ht=>Zrk (Zn2 h ht)⟩
theorem ZiU (t:Zx) (h:Zvm t):∃ r,Za8 t=some r∧(Zcu t→r.2=0∧(r.1.1<0↔∃ v∈Zx.Values t,v<0))∧(¬Zcu t→r.2=1):=by
  unfold Za8
  rw [ZmZ _ h,Bq]
  by_cases h1:Zcu t
  · rw [if_pos (Yl h1)]
    obtain ⟨x,l,hv⟩:=h1.some
    have h4:(x::l).length≤4611686018427387904:=by rw [←hv];exact h.2.2
    have e2:atI (Zx.Values t) (0:Int)=some x:=by rw [hv];rfl
    rw [e2,Bq]
    have:=J6 (l:=l) (ρ:=ZH×Int) (fun k=>((((k+1:Nat)):Int),(l.take k).foldl min x,(l.take k).foldl max x,())) (step:=fun v=>QU t v.1 v.2.1 v.2.2.1) (good:=((l.foldl min x,l.foldl max x,()),0))
      (fun k y hy hk=>by
        have hx1:(x::l)[k+1]?=some y:=by simpa using hy
        simp only [List.length_cons] at h4
        simp only [QU,hv,Zt,hx1,Bq,show ((k+1:Nat):Int)<((x::l).length:Int) from by simp;omega,if_true]
        rw [YP hy,List.foldl_append,List.foldl_append,Vq (by omega) (by omega)]
        rfl)
      (by
        simp only [QU,hv,List.take_length,show ¬(((l.length+1:Nat):Int)<((x::l).length:Int)) from by simp,if_false])
    refine ⟨_,this,fun _=>⟨rfl,?_⟩,fun hn=>absurd h1 hn⟩
    rw [hv]
    refine (Zja x l).trans ?_
    simp
  · rw [if_neg (by rw [ZK h1];simp)]
    exact ⟨_,rfl,fun hn=>absurd hn h1,fun _=>rfl⟩
theorem ZcN (l:List Zx) (pos:Bool) (h:Zt1 l):Yp l pos=some (tr (Zdc l pos)):=by
  unfold Yp
  by_cases h2:l.length=2
  · rw [if_pos (by omega),Qc h.1 (fun k t=>Zcu t∧(pos=true→∀ v∈Zx.Values t,0≤v)) (bad:=false) (good:=true)
      (fun k t hx hk _=>by
        obtain ⟨r,hr,hr1,hr2⟩:=ZiU t (h.2 t (List.mem_of_getElem? hx))
        simp only [ZaO,show (k:Int)<2 from by omega,if_true,Zt,hx,Bq,hr]
        by_cases ht:Zcu t
        · obtain ⟨e1,e2⟩:=hr1 ht
          rw [if_pos e1]
          cases pos
          · simp only [Bool.false_eq_true,if_false]
            exact ⟨fun _=>trivial,fun hn=>absurd ⟨ht,fun e=>by cases e⟩ hn⟩
          · simp only [if_true]
            refine ⟨fun hh=>?_,fun hn=>?_⟩
            · rw [if_neg]
              intro hlt
              obtain ⟨v,hv,hv0⟩:=e2.1 hlt
              have:=hh.2 trivial v hv
              omega
            · rw [if_pos]
              apply Classical.byContradiction
              intro hlt
              refine hn ⟨ht,fun _ v hv=>?_⟩
              exact Int.not_lt.1 fun hv0=>hlt (e2.2 ⟨v,hv,hv0⟩)
        · have e1:=hr2 ht
          rw [if_neg (by rw [e1];decide)]
          exact ⟨fun hh=>absurd hh.1 ht,fun _=>rfl⟩)
      (fun _=>by simp only [ZaO,h2];rfl),Zk1]
    congr 1
    refine YI ⟨fun hh=>⟨h2,fun t ht=>?_⟩,fun hh k t hk=>hh.2 t (List.mem_of_getElem? hk)⟩
    obtain ⟨k,hk⟩:=List.mem_iff_getElem?.1 ht
    exact hh k t hk
  · rw [if_neg (by omega),ZK (fun hh=>h2 hh.1)]
def Zdl (l:List Yq):List (List UInt8):=l.map Yq.Name
def Zlv (l:List Yq):Nat:=l.countP (fun p=>Yq.Clock p)
def ZoS (n k:Nat) (p:Yq):Prop:=(0≤Yq.Cap p∧Yq.Cap p≤500)∧(k+1=n→Yq.Dir p=2∧Yq.Cap p=0∧Yq.Clock p=false)∧(k+1<n→Yq.Dir p=1)
def Zh3 (l:List Yq):Prop:=2≤l.length∧l.length≤5∧Qp (Zdl l) l.length∧Zev l (ZoS l.length)
theorem Zma (l:List Yq) (h:sm (.sl Zdb) l):ZeI l=some (tr (Zh3 l)):=by
  unfold ZeI
  have hs:=Zw h
  have:=Zgn (l:=l) (ρ:=Bool) (fun k=>((Zdl l).take k,(k:Int),())) (ZoS l.length) (step:=fun v=>Ve l v.1 v.2.1) (bad:=false) (good:=tr (2≤l.length∧l.length≤5∧Qp (Zdl l) l.length))
    (fun k p hx hk _=>by
      have hn:(Zdl l)[k]?=some (Yq.Name p):=by simp [Zdl,hx]
      have e1:Wq ((l.length:Int)-1)=((l.length-1:Nat):Int):=by rw [Vq (by omega) (by omega)];omega
      simp only [Ve,show (k:Int)<(l.length:Int) from by omega,if_true,Zt,hx,Bq,e1]
      rw [Zj (by simp only [List.length_take,List.length_singleton,Zdl,List.length_map];omega),YP hn,Vq (by omega) (by omega)]
      unfold ZoS
      by_cases hlast:(k:Int)=((l.length-1:Nat):Int)
      · rw [if_pos hlast]
        have hk1:k+1=l.length:=by omega
        constructor
        · rintro ⟨_,h2,_⟩
          obtain ⟨a,b,c⟩:=h2 hk1
          rw [if_pos a,if_pos b,if_neg (by rw [c];simp)]
          rfl
        · intro hh
          split
          · split
            · split
              · rfl
              · rename_i a b c
                exact absurd ⟨by omega,fun _=>⟨a,b,by simpa using c⟩,fun h'=>by omega⟩ hh
            · rfl
          · rfl
      · rw [if_neg hlast,Qu]
        have hk1:k+1<l.length:=by omega
        simp only [Bq,within_iff]
        constructor
        · rintro ⟨h1,_,h3⟩
          rw [if_pos (h3 hk1),if_pos h1]
          rfl
        · intro hh
          split
          · split
            · rename_i a b
              exact absurd ⟨b,fun h'=>by omega,fun _=>a⟩ hh
            · rfl
          · rfl)
    (fun hA=>by
      have e0:(Zdl l).take l.length=Zdl l:=by rw [show l.length=(Zdl l).length by simp [Zdl],List.take_length]
      simp only [Ve,Int.lt_irrefl,if_false,e0,Qu,Bq,show Vw l=some (l.length:Int) from rfl]
      have hlen:(Zdl l).length=l.length:=by simp [Zdl]
      by_cases hw:within (l.length:Int) 2 5=true
      · rw [if_pos hw,Qa _ (by rw [hlen];omega),Bq,hlen]
        rw [within_iff] at hw
        congr 2
        exact YI ⟨fun hh=>⟨by omega,by omega,hh⟩,fun hh=>hh.2.2⟩
      · rw [if_neg hw,ZK]
        intro hh
        exact hw ((within_iff _ _ _).2 (by omega)))
  refine (show Zr (fun v=>Ve l v.1 v.2.1) (([]:List (List UInt8)),(0:Int),())=_ from this).trans ?_
  congr 1
  refine Zcw ?_
  rw [Qx]
  by_cases hA:Zev l (ZoS l.length)
  · rw [Y3 hA,Qx]
    exact ⟨fun hh=>⟨hh.1,hh.2.1,hh.2.2,hA⟩,fun hh=>⟨hh.1,hh.2.1,hh.2.2.1⟩⟩
  · rw [YH hA]
    exact ⟨fun hh=>(by cases hh),fun hh=>absurd hh.2.2.2 hA⟩
/-
  Plain laws: pins by the reference; arcs.
-/
theorem ZkM {n:Nat} (h:n≤1048576) (h1:1≤n):Wq ((n:Int)-1)=((n-1:Nat):Int):=by rw [Vq (by omega) (by omega)];omega
theorem VI {n:Nat} (h:n≤1048576):Wq ((n:Int)+1)=((n+1:Nat):Int):=by rw [Vq (by omega) (by omega)];omega
theorem Zih {l:List Yq} {k:Nat} {s:List UInt8}:s ∉ (Zdl l).take k↔∀ (j:Nat) (q:Yq),j<k→l[j]?=some q→Yq.Name q≠s:=by
  constructor
  · intro h j q hj hq e
    refine h (List.mem_iff_getElem?.2 ⟨j,?_⟩)
    rw [List.getElem?_take,if_pos hj]
    simp [Zdl,hq,e]
  · intro h hm
    obtain ⟨j,hj⟩:=List.mem_iff_getElem?.1 hm
    rw [List.getElem?_take] at hj
    split at hj
    · rename_i hjk
      simp only [Zdl,List.getElem?_map,Option.map_eq_some_iff] at hj
      obtain ⟨q,hq,e⟩:=hj
      exact h j q hjk hq e
    · cases hj
theorem Zm0 (c:Zi) (h:sm (.sl Zdb) (Zi.YB c)):Ze6 c=some (sel (Zh3 (Zi.YB c)) ((Zlv (Zi.YB c):Int),true) ((0:Int),false)):=by
  unfold Ze6
  have hs:=Zw h
  by_cases h2:((Zi.YB c).length:Int)<2
  · rw [if_pos h2,YH (fun hh=>by have:=hh.1;omega)]
  by_cases h5:(5:Int)<((Zi.YB c).length:Int)
  · rw [if_neg h2,if_pos h5,YH (fun hh=>by have:=hh.2.1;omega)]
  rw [if_neg h2,if_neg h5]
  have e1:Wq (((Zi.YB c).length:Int)-1)=(((Zi.YB c).length-1:Nat):Int):=ZkM hs (by omega)
  have:=Zgn (l:=Zi.YB c) (ρ:=Int×Bool) (fun k=>((((Zi.YB c).take k).countP (fun p=>Yq.Clock p):Int),(k:Int),()))
    (fun k p=>(VO (Yq.Name p)=true∧∀ (j:Nat) (q:Yq),j<k→(Zi.YB c)[j]?=some q→Yq.Name q≠Yq.Name p)∧ZoS (Zi.YB c).length k p) (step:=fun v=>Vk c v.1 v.2.1) (bad:=((0:Int),false)) (good:=((Zlv (Zi.YB c):Int),true))
    (fun k p hx hk _=>by
      have hcnt:((Zi.YB c).take k).countP (fun p=>Yq.Clock p)≤5:=by
        have h1:=List.countP_le_length (p:=fun p=>Yq.Clock p) (l:=(Zi.YB c).take k)
        rw [List.length_take] at h1;omega
      have hnext:((Zi.YB c).take (k+1)).countP (fun p=>Yq.Clock p)=((Zi.YB c).take k).countP (fun p=>Yq.Clock p)+if Yq.Clock p=true then 1 else 0:=by
        rw [YP hx,List.countP_append];simp [List.countP_cons]
      have hname:(Yq.Name p).length≤4611686018427387904:=Zeu (Zfx h hx).1
      have rest:∀ (v:Int),X9 c v (k:Int) p (k:Int)=sel (VO (Yq.Name p)=true∧ZoS (Zi.YB c).length k p) (some (Sum.inr (Sum.inl (if Yq.Clock p=true then Wq (v+1) else v,((k+1:Nat):Int),())))) (some (Sum.inr (Sum.inr (0,false)))):=by
        intro v
        simp only [X9,Int.lt_irrefl,if_false,Zaa _ hname,Vj,Bq,e1,VI (show k≤1048576 by omega),within_iff]
        unfold ZoS
        by_cases hn:VO (Yq.Name p)=true
        · by_cases hcap:0≤Yq.Cap p∧Yq.Cap p≤500
          · by_cases hlast:k+1=(Zi.YB c).length
            · have e2:(k:Int)=(((Zi.YB c).length-1:Nat):Int):=by omega
              have e3:¬((k:Int)<(((Zi.YB c).length-1:Nat):Int)):=by omega
              have e4:¬(k+1<(Zi.YB c).length):=by omega
              rw [if_pos hn,if_pos hcap,if_pos e2]
              by_cases a:Yq.Dir p=2
              · by_cases b:Yq.Cap p=0
                · by_cases d:Yq.Clock p=true
                  · rw [if_pos a,if_pos b,if_pos d,YH]
                    rintro ⟨_,_,h',_⟩
                    have:=(h' hlast).2.2
                    rw [d] at this;cases this
                  · rw [if_pos a,if_pos b,if_neg d,if_neg e3,if_neg d,Y3 ⟨hn,hcap,fun _=>⟨a,b,by simpa using d⟩,fun h'=>absurd h' e4⟩]
                    simp [d]
                · rw [if_pos a,if_neg b,YH]
                  rintro ⟨_,_,h',_⟩
                  exact b (h' hlast).2.1
              · rw [if_neg a,YH]
                rintro ⟨_,_,h',_⟩
                exact a (h' hlast).1
            · have e2:¬(k:Int)=(((Zi.YB c).length-1:Nat):Int):=by omega
              have e3:(k:Int)<(((Zi.YB c).length-1:Nat):Int):=by omega
              have e4:k+1<(Zi.YB c).length:=by omega
              rw [if_pos hn,if_pos hcap,if_neg e2,if_pos e3]
              by_cases a:Yq.Dir p=1
              · rw [if_pos a,Y3 ⟨hn,hcap,fun h'=>absurd h' hlast,fun _=>a⟩]
                by_cases d:Yq.Clock p=true
                · rw [if_pos d,if_pos d]
                · rw [if_neg d,if_neg d]
              · rw [if_neg a,YH]
                rintro ⟨_,_,_,h'⟩
                exact a (h' e4)
          · rw [if_pos hn,if_neg hcap,YH (fun hh=>hcap hh.2.1)]
        · rw [if_neg hn,YH (fun hh=>hn hh.1)]
      have inner:∀ (v:Int) (good:(Int×Int×Unit) ⊕ (Int×Bool)),((∀ (j:Nat) (q:Yq),j<k→(Zi.YB c)[j]?=some q→Yq.Name q≠Yq.Name p)→X9 c v (k:Int) p (k:Int)=some (.inr good))→
          Zr (fun v'=>X9 c v (k:Int) p v'.1) ((0:Int),())=some (sel (∀ j,j<k→∀ q,(Zi.YB c)[j]?=some q→Yq.Name q≠Yq.Name p) good (.inr (0,false))):=by
        intro v good hg
        refine ZmG k (by omega) (fun j=>∀ q,(Zi.YB c)[j]?=some q→Yq.Name q≠Yq.Name p) (fun j hj=>?_) (fun hh=>hg (fun j q hj hq=>hh j hj q hq))
        obtain ⟨q,hq⟩:∃ q,(Zi.YB c)[j]?=some q:=⟨_,List.getElem?_eq_getElem (by omega)⟩
        simp only [X9,show (j:Int)<(k:Int) from by omega,if_true,Zt,hq,Bq]
        refine ⟨fun hh=>by rw [if_neg (hh q rfl)],fun hh=>?_⟩
        rw [if_pos]
        apply Classical.byContradiction
        intro hne
        exact hh (fun q' hq'=>by injection hq' with hq';subst hq';exact hne)
      simp only [Vk,show (k:Int)<((Zi.YB c).length:Int) from by omega,if_true,Zt,hx,Bq]
      constructor
      · rintro ⟨⟨a,b⟩,d⟩
        rw [inner _ (.inl (((((Zi.YB c).take (k+1)).countP (fun p=>Yq.Clock p):Nat):Int),((k+1:Nat):Int),())) (fun _=>by
          rw [rest,Y3 ⟨a,d⟩,hnext]
          by_cases hc:Yq.Clock p=true
          · rw [if_pos hc,if_pos hc,VI (by omega)]
          · rw [if_neg hc,if_neg hc];rfl),Y3 (fun j hj q hq=>b j q hj hq)]
      · intro hh
        rw [inner _ (.inr (0,false)) (fun hn=>by
          rw [rest,YH (fun h'=>hh ⟨⟨h'.1,hn⟩,h'.2⟩)])]
        by_cases hP:∀ j,j<k→∀ q,(Zi.YB c)[j]?=some q→Yq.Name q≠Yq.Name p
        · rw [Y3 hP]
        · rw [YH hP])
    (fun _=>by simp only [Vk,Int.lt_irrefl,if_false,List.take_length];rfl)
  refine (show Zr (fun v=>Vk c v.1 v.2.1) ((0:Int),(0:Int),())=_ from this).trans ?_
  congr 1
  have e:Zev (Zi.YB c) (fun k p=>(VO (Yq.Name p)=true∧∀ (j:Nat) (q:Yq),j<k→(Zi.YB c)[j]?=some q→Yq.Name q≠Yq.Name p)∧ZoS (Zi.YB c).length k p)↔Zh3 (Zi.YB c):=by
    constructor
    · intro hA
      refine ⟨by omega,by omega,fun j s hj hs'=>?_,fun k p hp=>(hA k p hp).2⟩
      simp only [Zdl,List.getElem?_map,Option.map_eq_some_iff] at hs'
      obtain ⟨q,hq,rfl⟩:=hs'
      exact ⟨(hA j q hq).1.1,Zih.2 (hA j q hq).1.2⟩
    · intro hh k p hp
      have hk:=(List.getElem?_eq_some_iff.1 hp).1
      have hn:=hh.2.2.1 k (Yq.Name p) hk (by simp [Zdl,hp])
      exact ⟨⟨hn.1,Zih.1 hn.2⟩,hh.2.2.2 k p hp⟩
  rw [propext e]
/-
  Plain laws: arcs.
-/
def Zoj (l:List Yq) (i:Int):Bool:=match l[i.toNat]? with
  | some p=>Yq.Clock p
  | none=>false
def ZjS (c:Zi) (a:ZB):Prop :=
  (0≤ZB.From a∧ZB.From a≤((Zi.YB c).length:Int)-2)∧(0≤ZB.To a∧ZB.To a≤((Zi.YB c).length:Int)-1)∧
  ((ZB.Kind a=1∧Zoj (Zi.YB c) (ZB.From a)=false∧ZB.To a=((Zi.YB c).length:Int)-1∧(1≤ZB.ZbM a∧ZB.ZbM a≤3)∧Zdc (ZB.Delay a) true∧Zdc (ZB.ZaY a) true)∨
   ((ZB.Kind a=2∨ZB.Kind a=3)∧Zoj (Zi.YB c) (ZB.From a)=true∧ZB.To a=((Zi.YB c).length:Int)-1∧ZB.ZbM a=0∧Zdc (ZB.Delay a) true∧Zdc (ZB.ZaY a) true)∨
   ((ZB.Kind a=4∨ZB.Kind a=5)∧Zoj (Zi.YB c) (ZB.From a)=true∧ZB.To a<((Zi.YB c).length:Int)-1∧Zoj (Zi.YB c) (ZB.To a)=false∧ZB.ZbM a=0∧Zdc (ZB.Delay a) false∧(ZB.ZaY a).length=0))
theorem ZjS.kind {c:Zi} {a:ZB} (h:ZjS c a):1≤ZB.Kind a∧ZB.Kind a≤5:=by
  rcases h.2.2 with h | h | h
  · have:=h.1;omega
  · have:=h.1;omega
  · have:=h.1;omega
theorem Xf {P Q:Prop} {_:Decidable P} {m:Option Bool} (hm:P→m=some (tr Q)):(if P then m else some false)=some (tr (P∧Q)):=by
  by_cases h:P
  · rw [if_pos h,hm h];congr 1;exact YI ⟨fun q=>⟨h,q⟩,fun q=>q.2⟩
  · rw [if_neg h,ZK (fun q=>h q.1)]
theorem Zd6 {P Q:Prop} {_:Decidable P} {m:Option Bool} (hm:¬P→m=some (tr Q)):(if P then some false else m)=some (tr (¬P∧Q)):=by
  by_cases h:P
  · rw [if_pos h,ZK (fun q=>q.1 h)]
  · rw [if_neg h,hm h];congr 1;exact YI ⟨fun q=>⟨h,q⟩,fun q=>q.2⟩
theorem ZaF {P:Prop} {b:Bool} (h:b=true↔P):some b=some (tr P):=by rw [ZlF h]
theorem Zcx {m:Option Bool} {P Q:Prop} (h:m=some (tr P)) (hpq:P↔Q):m=some (tr Q):=by rw [h,propext hpq]
theorem Zn3 {Q:Prop} (h:¬Q):(some false:Option Bool)=some (tr Q):=by rw [ZK h]
theorem Zcv {P:Prop} {m:Option Bool} (h:m=some (tr P)):(m.bind fun b=>some b)=some (tr P):=by rw [h];rfl
theorem Yx {P Q:Prop} {m m2:Option Bool} (h:m=some (tr P)) (h2:P→m2=some (tr Q)):(m.bind fun b=>if b=true then m2 else some false)=some (tr (P∧Q)):=by
  rw [h,Bq]
  by_cases hp:P
  · rw [if_pos (Yl hp),h2 hp];congr 1;exact YI ⟨fun q=>⟨hp,q⟩,fun q=>q.2⟩
  · rw [if_neg (by rw [ZK hp];simp),ZK (fun q=>hp q.1)]
theorem Zqg {P Q:Prop} {m m2:Option Bool} (h:m=some (tr P)) (h2:¬P→m2=some (tr Q)):(m.bind fun b=>if b=true then some false else m2)=some (tr (¬P∧Q)):=by
  rw [h,Bq]
  by_cases hp:P
  · rw [if_pos (Yl hp),ZK (fun q=>q.1 hp)]
  · rw [if_neg (by rw [ZK hp];simp),h2 hp];congr 1;exact YI ⟨fun q=>⟨hp,q⟩,fun q=>q.2⟩
theorem QO (n a b:Int):ZV n a b=some (tr (a≤n∧n≤b)):=by rw [Vj];exact ZaF (within_iff _ _ _)
theorem XC (n a b:Int):ZW n a b=some (tr (a≤n∧n≤b)):=by rw [Qu];exact ZaF (within_iff _ _ _)
theorem Zsq {l:List Yq} {i:Int} (h0:0≤i) (h1:i<l.length):∃ p,atI l i=some p∧Zoj l i=Yq.Clock p:=by
  obtain ⟨p,h2,h3⟩:=ZlV h0 h1
  exact ⟨p,h2,by simp [Zoj,h3]⟩
theorem ZnD (c:Zi) (a:ZB) (hp:sm (.sl Zdb) (Zi.YB c)) (hd:sm (.sl YO) (ZB.Delay a)) (hw:sm (.sl YO) (ZB.ZaY a)) (h2:2≤(Zi.YB c).length):Zgw c a=some (tr (ZjS c a)):=by
  unfold Zgw
  have hs:=Zw hp
  have e1:Wq (((Zi.YB c).length:Int)-1)=((Zi.YB c).length:Int)-1:=Vq (by omega) (by omega)
  have e2:Wq (((Zi.YB c).length:Int)-1-1)=((Zi.YB c).length:Int)-2:=by rw [Vq (by omega) (by omega)];omega
  rw [e1,e2]
  refine Zcx (Yx (QO _ _ _) (fun hF=>Yx (QO _ _ _) (fun hT=>?_))) (Q:=ZjS c a) (P:=(0≤ZB.From a∧ZB.From a≤((Zi.YB c).length:Int)-2)∧(0≤ZB.To a∧ZB.To a≤((Zi.YB c).length:Int)-1)∧ZjS c a) ⟨fun hh=>hh.2.2,fun hh=>⟨hh.1,hh.2.1,hh⟩⟩
  obtain ⟨p,hp1,hp2⟩:=Zsq (l:=Zi.YB c) hF.1 (by omega)
  rw [hp1,Bq]
  have hdl:=ZgA hd
  have hsl:=ZgA hw
  have tt:∀ b,(Yp (ZB.Delay a) b).bind (fun x=>if x=true then (Yp (ZB.ZaY a) b).bind (fun y=>some y) else some false)=some (tr (Zdc (ZB.Delay a) b∧Zdc (ZB.ZaY a) b)):=fun b=>Yx (ZcN _ _ hdl) (fun _=>Zcv (ZcN _ _ hsl))
  have tz:(Yp (ZB.Delay a) false).bind (fun x=>if x=true then some (Decidable.decide (((ZB.ZaY a).length:Int)=(0:Int))) else some false)=some (tr (Zdc (ZB.Delay a) false∧(ZB.ZaY a).length=0)):=Yx (ZcN _ _ hdl) (fun _=>ZaF (by rw [decide_eq_true_eq];omega))
  unfold ZjS
  rw [hp2]
  by_cases k1:ZB.Kind a=1
  · simp only [k1,if_true]
    refine Zcx (Zd6 (fun hc=>Xf (fun hl=>Yx (QO _ _ _) (fun _=>tt true)))) ?_
    grind
  by_cases k2:ZB.Kind a=2
  · simp only [k2,if_true,Int.reduceEq,if_false]
    refine Zcx (Xf (fun hc=>Xf (fun hl=>Xf (fun _=>tt true)))) ?_
    grind
  by_cases k3:ZB.Kind a=3
  · simp only [k3,if_true,Int.reduceEq,if_false]
    refine Zcx (Xf (fun hc=>Xf (fun hl=>Xf (fun _=>tt true)))) ?_
    grind
  have chk:(if Yq.Clock p=true then (if ZB.To a<((Zi.YB c).length:Int)-1 then (atI (Zi.YB c) (ZB.To a)).bind (fun x1=>if Yq.Clock x1=true then some false else if ZB.ZbM a=0 then (Yp (ZB.Delay a) false).bind (fun x=>if x=true then some (Decidable.decide (((ZB.ZaY a).length:Int)=(0:Int))) else some false) else some false) else some false) else some false) =
      some (tr (Yq.Clock p=true∧ZB.To a<((Zi.YB c).length:Int)-1∧Zoj (Zi.YB c) (ZB.To a)=false∧ZB.ZbM a=0∧Zdc (ZB.Delay a) false∧(ZB.ZaY a).length=0)):=by
    refine Xf (fun _=>Xf (fun hl=>?_))
    obtain ⟨q,hq1,hq2⟩:=Zsq (l:=Zi.YB c) hT.1 (by omega)
    rw [hq1,Bq,hq2]
    refine Zcx (Zd6 (fun _=>Xf (fun _=>tz))) ?_
    simp only [Bool.not_eq_true]
  by_cases k4:ZB.Kind a=4
  · simp only [k4,if_true,Int.reduceEq,if_false]
    refine Zcx chk ?_
    grind
  by_cases k5:ZB.Kind a=5
  · simp only [k5,if_true,Int.reduceEq,if_false]
    refine Zcx chk ?_
    grind
  · simp only [k1,k2,k3,k4,k5,if_false]
    refine Zn3 ?_
    grind
def Zhc (l:List Yq):Int:=ZbS (fun p=>Yq.Clock p) l
theorem Zje (c:Zi) (h:sm (.sl Zdb) (Zi.YB c)):ZbU c=some (Zhc (Zi.YB c)):=by
  unfold ZbU
  rw [XP (Yv h) (fun p=>Yq.Clock p) (fun p _=>rfl),Bq]
  rfl
theorem Zbf (c:Zi) (h:sm (.sl Zdb) (Zi.YB c)):Je c=some (((Zi.YB c).length:Int)-1):=by
  have hs:=Zw h
  show some (Wq (((Zi.YB c).length:Int)-1))=_
  rw [Vq (by omega) (by omega)]
theorem Zdz (c:Zi) (i:Int) (h:sm (.sl Zdb) (Zi.YB c)):Vz c i=some (tr (0≤i∧i≤((Zi.YB c).length:Int)-2)):=by
  have hs:=Zw h
  unfold Vz
  rw [Zbf c h,Bq,Vq (by omega) (by omega)]
  refine Zcx (Zcv (XC _ _ _)) ?_
  omega
def ZsX (c:Zi) (a:ZB):Prop :=
  ((ZB.Kind a=4∨ZB.Kind a=5)∧ZB.ZbM a=0∧(ZB.ZaY a).length=0∧Zdc (ZB.Delay a) false∧ZB.From a=Zhc (Zi.YB c)∧0≤ZB.From a∧(0≤ZB.To a∧ZB.To a≤((Zi.YB c).length:Int)-2)∧ZB.To a≠ZB.From a)∨
  (¬(ZB.Kind a=4∨ZB.Kind a=5)∧Zdc (ZB.Delay a) true∧Zdc (ZB.ZaY a) true∧ZB.To a=((Zi.YB c).length:Int)-1∧(0≤ZB.From a∧ZB.From a≤((Zi.YB c).length:Int)-2)∧
    ((ZB.Kind a=1∧Zoj (Zi.YB c) (ZB.From a)=false∧(1≤ZB.ZbM a∧ZB.ZbM a≤3))∨((ZB.Kind a=2∨ZB.Kind a=3)∧Zoj (Zi.YB c) (ZB.From a)=true∧ZB.ZbM a=0)))
theorem Zmb (k:Int):ZeJ k=some (tr (k=4∨k=5)):=by
  unfold ZeJ
  split
  · rename_i h;rw [Yl (.inl h)]
  · rename_i h
    exact ZaF (by rw [decide_eq_true_eq];omega)
theorem Zou (c:Zi) (a:ZB) (hp:sm (.sl Zdb) (Zi.YB c)) (hd:sm (.sl YO) (ZB.Delay a)) (hw:sm (.sl YO) (ZB.ZaY a)):ZbW c a=some (tr (ZsX c a)):=by
  unfold ZbW
  have hdl:=ZgA hd
  have hsl:=ZgA hw
  rw [Zmb,Bq]
  by_cases hk:ZB.Kind a=4∨ZB.Kind a=5
  · rw [if_pos (Yl hk)]
    refine Zcx (Xf (fun _=>Xf (fun _=>Yx (Zcz _ _ hdl) (fun _=>?_)))) (P:=ZB.ZbM a=0∧((ZB.ZaY a).length:Int)=0∧Zdc (ZB.Delay a) false∧(ZB.From a=Zhc (Zi.YB c)∧0≤ZB.From a∧(0≤ZB.To a∧ZB.To a≤((Zi.YB c).length:Int)-2)∧ZB.To a≠ZB.From a)) ?_
    · rw [Zje c hp,Bq]
      refine Xf (fun _=>Xf (fun _=>Yx (Zdz c _ hp) (fun _=>ZaF ?_)))
      rw [Bool.not_eq_true',decide_eq_false_iff_not]
    · unfold ZsX
      constructor
      · rintro ⟨x1,x2,x3,x4⟩
        exact .inl ⟨hk,x1,by omega,x3,x4⟩
      · rintro (⟨_,x1,x2,x3,x4⟩ | ⟨x,_⟩)
        · exact ⟨x1,by omega,x3,x4⟩
        · exact absurd hk x
  · rw [if_neg (by rw [ZK hk];simp)]
    refine Zcx (Yx (Zcz _ _ hdl) (fun _=>Yx (Zcz _ _ hsl) (fun _=>?_))) (P:=Zdc (ZB.Delay a) true∧Zdc (ZB.ZaY a) true∧(ZB.To a=((Zi.YB c).length:Int)-1∧(0≤ZB.From a∧ZB.From a≤((Zi.YB c).length:Int)-2)∧
      ((ZB.Kind a=1∧Zoj (Zi.YB c) (ZB.From a)=false∧(1≤ZB.ZbM a∧ZB.ZbM a≤3))∨((ZB.Kind a=2∨ZB.Kind a=3)∧Zoj (Zi.YB c) (ZB.From a)=true∧ZB.ZbM a=0)))) ?_
    · rw [Zbf c hp,Bq]
      refine Xf (fun _=>Yx (Zdz c _ hp) (fun hF=>?_))
      obtain ⟨p,hp1,hp2⟩:=Zsq (l:=Zi.YB c) hF.1 (by omega)
      rw [hp1,hp2]
      simp only [Bq]
      by_cases k1:ZB.Kind a=1
      · simp only [k1,if_true]
        refine Zcx (Zd6 (fun _=>Zcv (XC _ _ _))) ?_
        grind
      by_cases k2:ZB.Kind a=2
      · simp only [k2,if_true,Int.reduceEq,if_false]
        refine Zcx (Xf (fun _=>ZaF (decide_eq_true_iff))) ?_
        grind
      by_cases k3:ZB.Kind a=3
      · simp only [k3,if_true,Int.reduceEq,if_false]
        refine Zcx (Xf (fun _=>ZaF (decide_eq_true_iff))) ?_
        grind
      · simp only [k1,k2,k3,if_false]
        refine Zn3 ?_
        grind
    · unfold ZsX
      constructor
      · intro x;exact .inr ⟨hk,x⟩
      · rintro (⟨x,_⟩ | ⟨_,x⟩)
        · exact absurd x hk
        · exact x
/-
  Plain laws: cells and libraries.
-/
def Zes (o a:ZB):Prop:=ZB.Kind o=ZB.Kind a∧ZB.From o=ZB.From a∧ZB.To o=ZB.To a
def Apart (l:List ZB) (k:Nat) (a:ZB):Prop:=∀ (j:Nat) (o:ZB),j<k→l[j]?=some o→¬Zes o a
structure ZnI (c:Zi):Prop where
  name:(Zi.Name c).length≤4611686018427387904
  pins:sm (.sl Zdb) (Zi.YB c)
  arcs:sm (.sl ZdY) (Zi.Zaf c)
  truth:sm (.sl (.int .i64)) (Zi.Truth c)
theorem ZtZ {c:Zi} (h:sm Qf c):ZnI c:=⟨Zeu h.1,h.2.2.1,h.2.2.2.1,h.2.2.2.2.1⟩
theorem Zv2 {a:ZB} (h:sm ZdY a):sm (.sl YO) (ZB.Delay a)∧sm (.sl YO) (ZB.ZaY a):=⟨h.2.2.2.2.1,h.2.2.2.2.2.1⟩
theorem Zjf (o a:ZB):XD o a=some (tr (Zes o a)):=by
  unfold XD Zes
  exact Xf (fun _=>Xf (fun _=>ZaF decide_eq_true_iff))
theorem Zl9 (c:Zi) (h:ZnI c):Zal c=some (tr ((Zi.Zaf c).length≤8∧Zev (Zi.Zaf c) (fun k a=>ZsX c a∧Apart (Zi.Zaf c) k a))):=by
  unfold Zal
  have hs:=Zw h.arcs
  rw [Qc (Yv h.arcs) (fun k a=>ZsX c a∧Apart (Zi.Zaf c) k a) (bad:=false) (good:=decide ((Zi.Zaf c).length≤8))
    (fun k a hx hk _=>by
      obtain ⟨h1,h2⟩:=Zv2 (Zfx h.arcs hx)
      simp only [VY,show (k:Int)<((Zi.Zaf c).length:Int) from by omega,if_true,Zt,hx,Bq,Zou c a h.pins h1 h2]
      by_cases hA:ZsX c a
      · rw [if_pos (Yl hA),Zj (by omega),Zj (by omega)]
        simp only [Int.toNat_natCast,Int.toNat_zero,List.drop_zero,Nat.sub_zero]
        rw [Xq (by show ((Zi.Zaf c).take k).length≤4611686018427387904;rw [List.length_take];omega) (fun o=>tr (Zes o a)) (fun o _=>Zjf o a),Bq]
        have e:((Zi.Zaf c).take k).any (fun o=>tr (Zes o a))=true↔¬Apart (Zi.Zaf c) k a:=by
          rw [List.any_eq_true]
          constructor
          · rintro ⟨o,ho,hs⟩ hap
            obtain ⟨j,hj⟩:=List.mem_iff_getElem?.1 ho
            rw [List.getElem?_take] at hj
            split at hj
            · rename_i hjk;exact hap j o hjk hj ((Qx _).1 hs)
            · cases hj
          · intro hn
            apply Classical.byContradiction
            intro hno
            refine hn (fun j o hj ho hs=>hno ⟨o,?_,Yl hs⟩)
            exact List.mem_iff_getElem?.2 ⟨j,by rw [List.getElem?_take,if_pos hj];exact ho⟩
        constructor
        · rintro ⟨_,hap⟩;rw [if_neg (fun hh=>e.1 hh hap)]
        · intro hn;rw [if_pos (e.2 (fun hap=>hn ⟨hA,hap⟩))]
      · rw [if_neg (by rw [ZK hA];simp)]
        exact ⟨fun hh=>absurd hh.1 hA,fun _=>rfl⟩)
    (fun _=>by
      simp only [VY,Int.lt_irrefl,if_false]
      congr 2
      rw [decide_eq_decide];omega)]
  congr 1
  refine Zcw ?_
  rw [Qx]
  by_cases hA:Zev (Zi.Zaf c) (fun k a=>ZsX c a∧Apart (Zi.Zaf c) k a)
  · rw [Y3 hA,decide_eq_true_eq];exact ⟨fun h=>⟨h,hA⟩,fun h=>h.1⟩
  · rw [YH hA];exact ⟨fun h=>(by cases h),fun h=>absurd h.2 hA⟩
def ZoP (c:Zi) (k:Int):Prop:=∃ a∈Zi.Zaf c,ZB.Kind a=k
theorem ZcB (c:Zi) (k:Int) (h:ZnI c):Qr c k=some (tr (ZoP c k)):=by
  unfold Qr
  rw [XH (Yv h.arcs) (fun a=>decide (ZB.Kind a=k)) (fun a _=>rfl),Bq]
  refine ZaF ?_
  rw [List.any_eq_true]
  simp only [decide_eq_true_eq,ZoP]
def Zez (c:Zi):Prop :=
  (Zi.Kind c=1∧Zlv (Zi.YB c)=0∧(Zi.Truth c).length=2 ^ ((Zi.YB c).length-1)∧Zg5 (Zi.Truth c) 0 1)∨
  (Zi.Kind c=2∧Zlv (Zi.YB c)=1∧(Zi.Truth c).length=0∧¬ZoP c 1∧(ZoP c 2↔¬ZoP c 3))∨
  (Zi.Kind c=3∧Zlv (Zi.YB c)=1∧(Zi.Truth c).length=0∧ZoP c 1∧ZoP c 2∧¬ZoP c 3)
theorem Zst {n:Nat} (h:n≤4):(2:Nat) ^ n≤16:=by
  calc (2:Nat) ^ n≤2 ^ 4:=Nat.pow_le_pow_right (by omega) h
    _=16:=rfl
theorem Zvy {m:Nat} (h:m≤4):Wq ((1:Int)*(2:Int) ^ min m (IntKind.bits IntKind.i64))=((2 ^ m:Nat):Int):=by
  have hb:min m (IntKind.bits IntKind.i64)=m:=Nat.min_eq_left (by show m≤64;omega)
  have e:(1:Int)*(2:Int) ^ m=((2 ^ m:Nat):Int):=by simp
  rw [hb,e]
  have h16:=Zst h
  clear hb e
  generalize 2 ^ m=g at h16 ⊢
  rw [Vq (by omega) (by omega)]
theorem Zlb (c:Zi) (h:ZnI c) (hp:Zh3 (Zi.YB c)):JA c=some (tr (Zez c)):=by
  unfold JA
  have h2:=hp.1
  have h5:=hp.2.1
  refine (show Zr (fun v=>Xl c v.1 v.2.1) ((0:Int),(0:Int),())=_ from J6 (l:=Zi.YB c) (ρ:=Bool) (fun k=>((((Zi.YB c).take k).countP (fun p=>Yq.Clock p):Int),(k:Int),())) (step:=fun v=>Xl c v.1 v.2.1)
    (fun k p hx hk=>by
      have hcnt:((Zi.YB c).take k).countP (fun p=>Yq.Clock p)≤5:=by
        have h1:=List.countP_le_length (p:=fun p=>Yq.Clock p) (l:=(Zi.YB c).take k)
        rw [List.length_take] at h1;omega
      have hnext:((Zi.YB c).take (k+1)).countP (fun p=>Yq.Clock p)=((Zi.YB c).take k).countP (fun p=>Yq.Clock p)+if Yq.Clock p=true then 1 else 0:=by
        rw [YP hx,List.countP_append];simp [List.countP_cons]
      simp only [Xl,show (k:Int)<((Zi.YB c).length:Int) from by omega,if_true,Zt,hx,Bq,hnext]
      by_cases hc:Yq.Clock p=true
      · rw [if_pos hc,if_pos hc,VI (by omega),VI (by omega)]
      · rw [if_neg hc,if_neg hc,VI (by omega)];rfl)
    ?_)
  have hout:=Zbf c h.pins
  simp only [Xl,Int.lt_irrefl,if_false,List.take_length,hout,Bq,show (((Zi.YB c).length:Int)-1).toNat=(Zi.YB c).length-1 from by omega,Zvy (show (Zi.YB c).length-1≤4 by omega)]
  have e00:((Zi.YB c).countP (fun p=>Yq.Clock p):Int)=0↔Zlv (Zi.YB c)=0:=by unfold Zlv;omega
  have e01:((Zi.YB c).countP (fun p=>Yq.Clock p):Int)=1↔Zlv (Zi.YB c)=1:=by unfold Zlv;omega
  unfold Zez
  by_cases k1:Zi.Kind c=1
  · simp only [k1,if_true]
    by_cases hc:Zlv (Zi.YB c)=0
    · rw [if_pos (e00.2 hc),Zj (by omega)]
      by_cases ht:(Zi.Truth c).length=2 ^ ((Zi.YB c).length-1)
      · rw [if_pos (by rw [ht]),Zaq _ _ _ (Yv h.truth),Bq]
        congr 2
        refine (ZlF ?_).symm
        rw [Zi0]
        exact ⟨fun hh=>.inl ⟨trivial,hc,ht,hh⟩,fun hh=>by grind⟩
      · rw [if_neg (by omega),ZK (by grind)]
    · rw [if_neg (fun hh=>hc (e00.1 hh)),ZK (by grind)]
  by_cases k2:Zi.Kind c=2
  · simp only [k2,if_true,Int.reduceEq,if_false]
    by_cases hc:Zlv (Zi.YB c)=1
    · rw [if_pos (e01.2 hc)]
      by_cases ht:(Zi.Truth c).length=0
      · rw [if_pos (by omega),ZcB c 1 h,Bq]
        by_cases h1:ZoP c 1
        · rw [if_pos (Yl h1),ZK (by grind)]
        · rw [if_neg (by rw [ZK h1];simp),ZcB c 2 h,ZcB c 3 h]
          simp only [Bq]
          congr 2
          refine (ZlF ?_).symm
          by_cases a:ZoP c 2<;>by_cases b:ZoP c 3<;>simp only [Yl,ZK,a,b,not_false_eq_true]<;>grind
      · rw [if_neg (by omega),ZK (by grind)]
    · rw [if_neg (fun hh=>hc (e01.1 hh)),ZK (by grind)]
  by_cases k3:Zi.Kind c=3
  · simp only [k3,if_true,Int.reduceEq,if_false]
    by_cases hc:Zlv (Zi.YB c)=1
    · rw [if_pos (e01.2 hc)]
      by_cases ht:(Zi.Truth c).length=0
      · rw [if_pos (by omega),ZcB c 1 h,Bq]
        by_cases h1:ZoP c 1
        · rw [if_pos (Yl h1),ZcB c 2 h,Bq]
          by_cases h2:ZoP c 2
          · rw [if_pos (Yl h2),ZcB c 3 h,Bq]
            congr 2
            refine (ZlF ?_).symm
            rw [Bool.not_eq_true',←Bool.not_eq_true,Qx]
            grind
          · rw [if_neg (by rw [ZK h2];simp),ZK (by grind)]
        · rw [if_neg (by rw [ZK h1];simp),ZK (by grind)]
      · rw [if_neg (by omega),ZK (by grind)]
    · rw [if_neg (fun hh=>hc (e01.1 hh)),ZK (by grind)]
  · simp only [k1,k2,k3,if_false]
    rw [ZK (by grind)]
def Zvv (c:Zi):Prop:=VO (Zi.Name c)=true∧Zh3 (Zi.YB c)∧((Zi.Zaf c).length≤8∧Zev (Zi.Zaf c) (fun k a=>ZsX c a∧Apart (Zi.Zaf c) k a))∧(0≤Zi.ZsY c∧Zi.ZsY c≤100000)∧(0≤Zi.Zh1 c∧Zi.Zh1 c≤100000)∧Zez c
def ZiW (c:Zi):Prop:=VO (Zi.Name c)=true∧Zh3 (Zi.YB c)∧((Zi.Zaf c).length≤8∧Zev (Zi.Zaf c) (fun k a=>ZjS c a∧Apart (Zi.Zaf c) k a))∧(0≤Zi.ZsY c∧Zi.ZsY c≤100000)∧(0≤Zi.Zh1 c∧Zi.Zh1 c≤100000)∧Zez c
theorem ZqD {l:List Yq} {i j:Nat} {p q:Yq} (hij:i<j) (hp:l[i]?=some p) (hq:l[j]?=some q) (cp:Yq.Clock p=true) (cq:Yq.Clock q=true):2≤Zlv l:=by
  unfold Zlv
  have e:l.countP (fun p=>Yq.Clock p)=(l.take j).countP (fun p=>Yq.Clock p)+(l.drop j).countP (fun p=>Yq.Clock p):=by rw [←List.countP_append,List.take_append_drop]
  have h1:0<(l.take j).countP (fun p=>Yq.Clock p):=List.countP_pos_iff.2 ⟨p,List.mem_iff_getElem?.2 ⟨i,by rw [List.getElem?_take,if_pos hij];exact hp⟩,cp⟩
  have h2:0<(l.drop j).countP (fun p=>Yq.Clock p):=List.countP_pos_iff.2 ⟨q,List.mem_iff_getElem?.2 ⟨0,by rw [List.getElem?_drop];exact hq⟩,cq⟩
  omega
theorem ZnO {l:List Yq} (h:Zlv l≤1) {i:Int} (h0:0≤i):Zoj l i=true↔i=Zhc l:=by
  unfold Zhc ZbS Zoj
  constructor
  · intro hc
    split at hc
    · rename_i p hp
      split
      · rename_i j hj
        obtain ⟨hj1,hj2,hj3⟩:=List.findIdx?_eq_some_iff_getElem.1 hj
        have hjg:l[j]?=some l[j]:=List.getElem?_eq_getElem hj1
        rcases Nat.lt_trichotomy i.toNat j with hlt | heq | hlt
        · have:=ZqD hlt hp hjg hc hj2;omega
        · omega
        · have:=ZqD hlt hjg hp hj2 hc;omega
      · rename_i hn
        rw [List.findIdx?_eq_none_iff] at hn
        have:=hn p (List.mem_of_getElem? hp)
        rw [hc] at this;cases this
    · cases hc
  · intro hi
    split at hi
    · rename_i j hj
      obtain ⟨hj1,hj2,hj3⟩:=List.findIdx?_eq_some_iff_getElem.1 hj
      subst hi
      rw [Int.toNat_natCast,List.getElem?_eq_getElem hj1]
      exact hj2
    · omega
theorem ZqW {l:List Yq} (h:Zh3 l):Zoj l ((l.length:Int)-1)=false:=by
  have h2:=h.1
  have hp:l[l.length-1]?=some l[l.length-1]:=List.getElem?_eq_getElem (by omega)
  have:=((h.2.2.2 _ _ hp).2.1 (by omega)).2.2
  unfold Zoj
  rw [show ((l.length:Int)-1).toNat=l.length-1 by omega,hp]
  exact this
theorem Zrz {c:Zi} (hp:Zh3 (Zi.YB c)) (hk:Zlv (Zi.YB c)≤1) (a:ZB):ZsX c a↔ZjS c a:=by
  have h2:=hp.1
  have hF:0≤ZB.From a→(Zoj (Zi.YB c) (ZB.From a)=true↔ZB.From a=Zhc (Zi.YB c)):=fun h=>ZnO hk h
  have hT:0≤ZB.To a→(Zoj (Zi.YB c) (ZB.To a)=true↔ZB.To a=Zhc (Zi.YB c)):=fun h=>ZnO hk h
  have hlast:=ZqW hp
  have hfr:∀ i,Zoj (Zi.YB c) i=true→i<((Zi.YB c).length:Int):=by
    intro i hi
    unfold Zoj at hi
    split at hi
    · rename_i p hp'
      have:=(List.getElem?_eq_some_iff.1 hp').1
      omega
    · cases hi
  unfold ZsX ZjS
  generalize Zhc (Zi.YB c)=ck at *
  constructor
  · rintro (⟨k,s,sl,td,fc,f0,⟨t0,t1⟩,ne⟩ | ⟨k,td,ts,te,⟨f0,f1⟩,hh⟩)
    · have hclk:=(hF f0).2 fc
      have hnl:ZB.From a≠((Zi.YB c).length:Int)-1:=fun e=>by rw [e,hlast] at hclk;cases hclk
      have:=hfr _ hclk
      refine ⟨⟨f0,by omega⟩,⟨t0,by omega⟩,.inr (.inr ⟨k,hclk,by omega,?_,s,td,sl⟩)⟩
      rw [←Bool.not_eq_true]
      intro hc
      exact ne (((hT t0).1 hc).trans fc.symm)
    · refine ⟨⟨f0,f1⟩,⟨by omega,by omega⟩,?_⟩
      rcases hh with ⟨k1,c1,s1⟩ | ⟨k1,c1,s1⟩
      · exact .inl ⟨k1,c1,te,s1,td,ts⟩
      · exact .inr (.inl ⟨k1,c1,te,s1,td,ts⟩)
  · rintro ⟨⟨f0,f1⟩,⟨t0,t1⟩,(⟨k,c1,te,s,td,ts⟩ | ⟨k,c1,te,s,td,ts⟩ | ⟨k,c1,tl,c2,s,td,sl⟩)⟩
    · exact .inr ⟨by omega,td,ts,te,⟨f0,f1⟩,.inl ⟨k,c1,s⟩⟩
    · exact .inr ⟨by omega,td,ts,te,⟨f0,f1⟩,.inr ⟨k,c1,s⟩⟩
    · refine .inl ⟨k,s,sl,td,(hF f0).1 c1,f0,⟨t0,by omega⟩,fun e=>?_⟩
      rw [e,c1] at c2;cases c2
theorem Zez.Zlv {c:Zi} (h:Zez c):Zlv (Zi.YB c)≤1:=by
  rcases h with h | h | h
  · have:=h.2.1;omega
  · have:=h.2.1;omega
  · have:=h.2.1;omega
theorem Zs9 (c:Zi):Zvv c↔ZiW c:=by
  unfold Zvv ZiW
  constructor
  · rintro ⟨a,b,⟨c1,d⟩,e,f,g⟩
    exact ⟨a,b,⟨c1,fun k x hx=>⟨(Zrz b g.Zlv x).1 (d k x hx).1,(d k x hx).2⟩⟩,e,f,g⟩
  · rintro ⟨a,b,⟨c1,d⟩,e,f,g⟩
    exact ⟨a,b,⟨c1,fun k x hx=>⟨(Zrz b g.Zlv x).2 (d k x hx).1,(d k x hx).2⟩⟩,e,f,g⟩
theorem Zng (c:Zi) (h:sm Qf c):Zf9 c=some (tr (ZiW c)):=by
  have hc:=ZtZ h
  unfold Zf9
  refine Zcx (Yx (by rw [Zfe];exact ZaF Iff.rfl) (fun _=>Yx (Zma _ hc.pins) (fun hp=>Yx (Zl9 c hc) (fun _=>Yx (XC _ _ _) (fun _=>Yx (XC _ _ _) (fun _=>Zcv (Zlb c hc hp))))))) ?_
  exact (Zs9 c)
/-
  Plain laws: cells by the reference; libraries.
-/
def Zds (l:List ZB):List Int:=(List.range 6).map (fun (j:Nat)=>((l.countP (fun a=>decide (ZB.Kind a=(j:Int))):Nat):Int))
theorem Zbi (l:List ZB) {j:Nat} (h:j<6):(Zds l)[j]?=some ((l.countP (fun a=>decide (ZB.Kind a=(j:Int))):Nat):Int):=by
  simp [Zds,List.getElem?_range h]
theorem ZlB (c:Zi) (h:ZnI c) (hk:∀ a∈Zi.Zaf c,1≤ZB.Kind a∧ZB.Kind a≤5):ZdT c=some (Zds (Zi.Zaf c)):=by
  unfold ZdT
  have hs:=Zw h.arcs
  have h0:List.replicate (Int.toNat (6:Int)) (0:Int)=Zds ((Zi.Zaf c).take 0):=by simp [Zds];decide
  rw [h0]
  refine J6 (l:=Zi.Zaf c) (ρ:=List Int) (fun k=>((k:Int),Zds ((Zi.Zaf c).take k),())) (step:=fun v=>Jb c v.1 v.2.1)
    (fun k a hx hlt=>?_) (by simp only [Jb,Int.lt_irrefl,if_false,List.take_length])
  obtain ⟨k1,k5⟩:=hk a (List.mem_of_getElem? hx)
  have hkn:ZB.Kind a=(((ZB.Kind a).toNat:Nat):Int):=by omega
  have hcnt:∀ j:Nat,((Zi.Zaf c).take k).countP (fun a=>decide (ZB.Kind a=(j:Int)))≤1048576:=by
    intro j
    have h1:=List.countP_le_length (p:=fun a=>decide (ZB.Kind a=(j:Int))) (l:=(Zi.Zaf c).take k)
    rw [List.length_take] at h1;omega
  simp only [Jb,show (k:Int)<((Zi.Zaf c).length:Int) from by omega,if_true,Zt,hx,Bq]
  rw [ZeC (by omega) (Zbi _ (show (ZB.Kind a).toNat<6 by omega)),Bq,VI (hcnt _),VI (by omega)]
  congr 3
  rw [Prod.mk.injEq]
  refine ⟨?_,rfl⟩
  apply List.ext_getElem?
  intro j
  by_cases hj:(ZB.Kind a).toNat=j
  · subst hj
    rw [List.getElem?_set_self (by simp [Zds];omega),Zbi _ (by omega),YP hx,List.countP_append]
    congr 2
    rw [List.countP_cons,List.countP_nil]
    simp [←hkn]
  · rw [List.getElem?_set_ne hj]
    by_cases h6:j<6
    · rw [Zbi _ h6,Zbi _ h6,YP hx,List.countP_append]
      congr 2
      rw [List.countP_cons,List.countP_nil]
      have:¬ZB.Kind a=(j:Int):=by omega
      simp [this]
    · rw [List.getElem?_eq_none (by simp [Zds];omega),List.getElem?_eq_none (by simp [Zds];omega)]
theorem ZlX (c:Zi) (j:Nat):0<(Zi.Zaf c).countP (fun a=>decide (ZB.Kind a=(j:Int)))↔ZoP c j:=by
  rw [List.countP_pos_iff]
  simp only [decide_eq_true_eq,ZoP]
theorem ZkI (c:Zi) (h:ZnI c) (hp:Zh3 (Zi.YB c)) (hk1:Zi.Kind c=1) :
    Zr (fun v=>Zaz c ((Zlv (Zi.YB c):Int),true) v.1) ((0:Int),())=some (.inr (tr (Zez c))):=by
  have h2:=hp.1
  have h5:=hp.2.1
  have hs:=Zw h.truth
  have e1:Wq (((Zi.YB c).length:Int)-1)=((Zi.YB c).length:Int)-1:=Vq (by omega) (by omega)
  have e2:IntKind.u64.wrap (((Zi.YB c).length:Int)-1)=((Zi.YB c).length:Int)-1:=IntWalk.u64_in _ (by omega)
  rw [Qc (Yv h.truth) (fun k x=>0≤x∧x≤1) (bad:=.inr false) (good:=.inr (tr (Zlv (Zi.YB c)=0∧(Zi.Truth c).length=2 ^ ((Zi.YB c).length-1))))
    (fun k x hx hk _=>by
      simp only [Zaz,show (k:Int)<((Zi.Truth c).length:Int) from by omega,if_true,Zt,hx,Bq,Vj,within_iff]
      exact ⟨fun hh=>by rw [if_pos hh],fun hh=>by rw [if_neg hh]⟩)
    (fun _=>by
      simp only [Zaz,Int.lt_irrefl,if_false,e1,e2]
      by_cases hc:Zlv (Zi.YB c)=0
      · rw [if_pos (by omega),Zj (by omega),show (((Zi.YB c).length:Int)-1).toNat=(Zi.YB c).length-1 by omega,Zvy (by omega)]
        congr 2
        congr 1
        refine (ZlF ?_).symm
        rw [decide_eq_true_eq]
        constructor
        · intro hh;exact ⟨hc,by omega⟩
        · intro hh;rw [hh.2]
      · rw [if_neg (by omega),ZK (fun hh=>hc hh.1)])]
  congr 1
  by_cases hA:Zev (Zi.Truth c) (fun k x=>0≤x∧x≤1)
  · rw [Y3 hA]
    congr 1
    refine YI ?_
    have hAll:Zg5 (Zi.Truth c) 0 1:=fun x hx=>by
      obtain ⟨k,hk⟩:=List.mem_iff_getElem?.1 hx
      exact hA k x hk
    unfold Zez
    grind
  · rw [YH hA,ZK]
    intro hh
    rcases hh with hh | hh | hh
    · exact hA (fun k x hk=>hh.2.2.2 x (List.mem_of_getElem? hk))
    · have:=hh.1;omega
    · have:=hh.1;omega
theorem ZnB (c:Zi) (hsm:sm Qf c):Zgu c=some (tr (ZiW c)):=by
  have h:=ZtZ hsm
  have hs:=Zw h.arcs
  unfold Zgu
  rw [Zm0 c h.pins,Bq]
  by_cases hp':¬Zh3 (Zi.YB c)
  · rw [YH hp',ZK (fun hh=>hp' hh.2.1)];rfl
  have hp:=Classical.not_not.1 hp'
  rw [Y3 hp]
  simp only [if_true]
  refine Zcx (Yx (P:=VO (Zi.Name c)=true) (by rw [Zaa _ h.name];exact ZaF Iff.rfl) (fun hn=>Zd6 (fun h8=>Yx (QO _ _ _) (fun hl=>Yx (QO _ _ _) (fun he=>?_))))) (P:=VO (Zi.Name c)=true∧¬((8:Int)<((Zi.Zaf c).length:Int))∧(0≤Zi.ZsY c∧Zi.ZsY c≤100000)∧(0≤Zi.Zh1 c∧Zi.Zh1 c≤100000)∧(Zev (Zi.Zaf c) (fun k a=>ZjS c a∧Apart (Zi.Zaf c) k a)∧Zez c)) ?_
  · rw [Qc (Yv h.arcs) (fun k a=>ZjS c a∧Apart (Zi.Zaf c) k a) (bad:=false) (good:=tr (Zez c))
      (fun k a hx hk _=>by
        obtain ⟨h1,h2⟩:=Zv2 (Zfx h.arcs hx)
        simp only [ZcK,show (k:Int)<((Zi.Zaf c).length:Int) from by omega,if_true,Zt,hx,Bq,ZnD c a h.pins h1 h2 hp.1]
        have inner:Zr (fun v=>Zay c (k:Int) a v.1) ((0:Int),())=some (sel (∀ j,j<k→∀ o,(Zi.Zaf c)[j]?=some o→¬Zes o a) (.inl (Wq ((k:Int)+1),())) (.inr false)):=by
          refine ZmG k (by omega) (fun j=>∀ o,(Zi.Zaf c)[j]?=some o→¬Zes o a) (fun j hj=>?_) (fun _=>by simp only [Zay,Int.lt_irrefl,if_false])
          obtain ⟨o,ho⟩:∃ o,(Zi.Zaf c)[j]?=some o:=⟨_,List.getElem?_eq_getElem (by omega)⟩
          simp only [Zay,show (j:Int)<(k:Int) from by omega,if_true,Zt,ho,Bq]
          have e:(∀ o',some o=some o'→¬Zes o' a)↔¬Zes o a:=⟨fun hh=>hh o rfl,fun hh o' ho'=>by injection ho' with ho';subst ho';exact hh⟩
          rw [e]
          unfold Zes
          constructor
          · intro hh
            split
            · split
              · split
                · exact absurd ⟨‹_›,‹_›,‹_›⟩ hh
                · rfl
              · rfl
            · rfl
          · intro hh
            have hh:=Classical.not_not.1 hh
            rw [if_pos hh.1,if_pos hh.2.1,if_pos hh.2.2]
        have eap:Apart (Zi.Zaf c) k a↔(∀ j,j<k→∀ o,(Zi.Zaf c)[j]?=some o→¬Zes o a):=⟨fun hh j hj o ho=>hh j o hj ho,fun hh j o hj ho=>hh j hj o ho⟩
        by_cases hA:ZjS c a
        · rw [if_pos (Yl hA),inner]
          constructor
          · intro hh;rw [Y3 (eap.1 hh.2)]
          · intro hh;rw [YH (fun h'=>hh ⟨hA,eap.2 h'⟩)]
        · rw [if_neg (by rw [ZK hA];simp)]
          exact ⟨fun hh=>absurd hh.1 hA,fun _=>rfl⟩)
      (fun hA=>by
        have hkinds:=ZlB c h (fun a ha=>by
          obtain ⟨k,hk⟩:=List.mem_iff_getElem?.1 ha
          exact (hA k a hk).1.kind)
        have g1:atI (Zds (Zi.Zaf c)) (1:Int)=some (((Zi.Zaf c).countP (fun a=>decide (ZB.Kind a=((1:Nat):Int))):Nat):Int):=ZeC (by omega) (Zbi _ (by omega))
        have g2:atI (Zds (Zi.Zaf c)) (2:Int)=some (((Zi.Zaf c).countP (fun a=>decide (ZB.Kind a=((2:Nat):Int))):Nat):Int):=ZeC (by omega) (Zbi _ (by omega))
        have g3:atI (Zds (Zi.Zaf c)) (3:Int)=some (((Zi.Zaf c).countP (fun a=>decide (ZB.Kind a=((3:Nat):Int))):Nat):Int):=ZeC (by omega) (Zbi _ (by omega))
        have c1:=ZlX c 1
        have c2:=ZlX c 2
        have c3:=ZlX c 3
        simp only [ZcK,Int.lt_irrefl,if_false,hkinds,Bq,g1,g2,g3]
        generalize (Zi.Zaf c).countP (fun a=>decide (ZB.Kind a=((1:Nat):Int)))=n1 at c1 ⊢
        generalize (Zi.Zaf c).countP (fun a=>decide (ZB.Kind a=((2:Nat):Int)))=n2 at c2 ⊢
        generalize (Zi.Zaf c).countP (fun a=>decide (ZB.Kind a=((3:Nat):Int)))=n3 at c3 ⊢
        by_cases k1:Zi.Kind c=1
        · rw [if_pos k1]
          exact ZkI c h hp k1
        rw [if_neg k1]
        have hgoal:∀ (b:Bool),(b=true↔Zez c)→(some (.inr b):Option ((Int×Unit) ⊕ Bool))=some (.inr (tr (Zez c))):=fun b hb=>by rw [ZlF hb]
        have c1':ZoP c 1↔0<n1:=c1.symm
        have c2':ZoP c 2↔0<n2:=c2.symm
        have c3':ZoP c 3↔0<n3:=c3.symm
        have hKO:Zez c↔(Zi.Kind c=2∧Zlv (Zi.YB c)=1∧(Zi.Truth c).length=0∧¬0<n1∧(0<n2↔¬0<n3))∨(Zi.Kind c=3∧Zlv (Zi.YB c)=1∧(Zi.Truth c).length=0∧0<n1∧0<n2∧¬0<n3):=by
          unfold Zez
          rw [c1',c2',c3']
          constructor
          · rintro (hh | hh | hh)
            · exact absurd hh.1 k1
            · exact .inl hh
            · exact .inr hh
          · rintro (hh | hh)
            · exact .inr (.inl hh)
            · exact .inr (.inr hh)
        by_cases k2:Zi.Kind c=2
        · rw [if_pos k2]
          split
          · split
            · split
              · rename_i a b d
                refine hgoal _ ?_
                rw [hKO]
                simp only [beq_iff_eq,decide_eq_decide] at d
                constructor
                · intro hh;cases hh
                · intro hh;omega
              · rename_i a b d
                refine hgoal _ ?_
                rw [hKO,decide_eq_true_eq]
                simp only [beq_iff_eq,decide_eq_decide] at d
                omega
            · refine hgoal _ ?_
              rw [hKO]
              constructor
              · intro hh;cases hh
              · intro hh;omega
          · refine hgoal _ ?_
            rw [hKO]
            constructor
            · intro hh;cases hh
            · intro hh;omega
        rw [if_neg k2]
        repeat' split
        all_goals
          refine hgoal _ ?_
          rw [hKO]
          first
            | (rw [decide_eq_true_eq];omega)
            | (constructor
               · intro hh;cases hh
               · intro hh;omega))]
    congr 1
    by_cases hA:Zev (Zi.Zaf c) (fun k a=>ZjS c a∧Apart (Zi.Zaf c) k a)
    · rw [Y3 hA];exact YI ⟨fun x=>⟨hA,x⟩,fun x=>x.2⟩
    · rw [YH hA,ZK (fun x=>hA x.1)]
  · unfold ZiW
    constructor
    · rintro ⟨a,b,c1,d,e,f⟩
      exact ⟨a,hp,⟨by omega,e⟩,c1,d,f⟩
    · rintro ⟨a,b,⟨c1,d⟩,e,f,g⟩
      exact ⟨a,by omega,e,f,d,g⟩
/-
  Plain laws: libraries; names of a design.
-/
theorem ZqA {α:Type} {l:List α} {k:Nat} {s:α}:s ∉ l.take k↔∀ (j:Nat) (q:α),j<k→l[j]?=some q→q≠s:=by
  constructor
  · intro h j q hj hq e
    refine h (List.mem_iff_getElem?.2 ⟨j,?_⟩)
    rw [List.getElem?_take,if_pos hj,hq,e]
  · intro h hm
    obtain ⟨j,hj⟩:=List.mem_iff_getElem?.1 hm
    rw [List.getElem?_take] at hj
    split at hj
    · rename_i hjk;exact h j s hjk hj rfl
    · cases hj
theorem ZmI {α:Type} (f:α→List UInt8) (l:List α):Qp (l.map f) l.length↔Zev l (fun k x=>VO (f x)=true∧∀ (j:Nat) (q:α),j<k→l[j]?=some q→f q≠f x):=by
  constructor
  · intro h k x hx
    have hk:=(List.getElem?_eq_some_iff.1 hx).1
    obtain ⟨h1,h2⟩:=h k (f x) hk (by simp [hx])
    refine ⟨h1,fun j q hj hq=>ZqA.1 h2 j (f q) hj (by simp [hq])⟩
  · intro h j s hj hs
    simp only [List.getElem?_map,Option.map_eq_some_iff] at hs
    obtain ⟨x,hx,rfl⟩:=hs
    obtain ⟨h1,h2⟩:=h j x hx
    refine ⟨h1,ZqA.2 (fun i q hi hq=>?_)⟩
    simp only [List.getElem?_map,Option.map_eq_some_iff] at hq
    obtain ⟨y,hy,rfl⟩:=hq
    exact h2 i y hi hy
def Zfu (l:List Zi):List (List UInt8):=l.map Zi.Name
def ZpD (a:Zu):Prop:=(Zu.Cells a).length≤8∧(∀ c∈Zu.Cells a,ZiW c)∧Qp (Zfu (Zu.Cells a)) (Zu.Cells a).length
theorem ZtH {a:Zu} (h:sm YD a):sm (.sl Qf) (Zu.Cells a):=h.1
theorem Q6 {α:Type} {l:List α} {P:α→Prop}:Zev l (fun _ x=>P x)↔∀ x∈l,P x:=by
  constructor
  · intro h x hx
    obtain ⟨k,hk⟩:=List.mem_iff_getElem?.1 hx
    exact h k x hk
  · intro h k x hk
    exact h x (List.mem_of_getElem? hk)
theorem Zce {P Q:Prop}:sel P (tr Q) false=tr (P∧Q):=by
  by_cases h:P
  · rw [Y3 h];exact YI ⟨fun q=>⟨h,q⟩,fun q=>q.2⟩
  · rw [YH h,ZK (fun q=>h q.1)]
theorem Zj2 (a:Zu) (h:sm YD a):ZcU a=some (tr (ZpD a)):=by
  have hc:=ZtH h
  have hs:=Zw hc
  unfold ZcU
  have:=Zgn (l:=Zu.Cells a) (ρ:=Bool) (fun k=>((Zfu (Zu.Cells a)).take k,(k:Int),())) (fun _ c=>ZiW c) (step:=fun v=>Qh a v.1 v.2.1) (bad:=false) (good:=tr ((Zu.Cells a).length≤8∧Qp (Zfu (Zu.Cells a)) (Zu.Cells a).length))
    (fun k c hx hk _=>by
      have hn:(Zfu (Zu.Cells a))[k]?=some (Zi.Name c):=by simp [Zfu,hx]
      simp only [Qh,show (k:Int)<((Zu.Cells a).length:Int) from by omega,if_true,Zt,hx,Bq,Zng c (Zfx hc hx)]
      rw [Zj (by simp only [List.length_take,List.length_singleton,Zfu,List.length_map];omega),YP hn,VI (by omega)]
      constructor
      · intro hh;rw [if_pos (Yl hh)]
      · intro hh;rw [if_neg (by rw [ZK hh];simp)])
    (fun hA=>by
      have e0:(Zfu (Zu.Cells a)).take (Zu.Cells a).length=Zfu (Zu.Cells a):=by rw [show (Zu.Cells a).length=(Zfu (Zu.Cells a)).length by simp [Zfu],List.take_length]
      have hlen:(Zfu (Zu.Cells a)).length=(Zu.Cells a).length:=by simp [Zfu]
      simp only [Qh,Int.lt_irrefl,if_false,e0]
      by_cases h8:(Zu.Cells a).length≤8
      · rw [if_pos (by omega),Qa _ (by rw [hlen];omega),Bq,hlen]
        congr 2
        exact YI ⟨fun q=>⟨h8,q⟩,fun q=>q.2⟩
      · rw [if_neg (by omega),ZK (fun q=>h8 q.1)])
  refine (show Zr (fun v=>Qh a v.1 v.2.1) (([]:List (List UInt8)),(0:Int),())=_ from this).trans ?_
  rw [Zce]
  congr 1
  refine YI ?_
  rw [Q6]
  exact ⟨fun q=>⟨q.2.1,q.1,q.2.2⟩,fun q=>⟨q.2.1,q.1,q.2.2⟩⟩
theorem Zit {α ρ:Type} {f:α→List UInt8} {l:List α} {x:α} {k:Nat} (hk:k≤1048576) (hkl:k≤l.length) {step:Int×Unit→Option ((Int×Unit) ⊕ ρ)} {bad good:ρ}
    (hs:∀ (j:Nat) (y:α),j<k→l[j]?=some y→step ((j:Int),())=some (if f y=f x then .inr bad else .inl (Wq ((j:Int)+1),())))
    (hx:step ((k:Int),())=some (.inr good)):Zr step ((0:Int),())=some (sel (∀ (j:Nat) (q:α),j<k→l[j]?=some q→f q≠f x) good bad):=by
  rw [ZmG k (by omega) (fun j=>∀ q,l[j]?=some q→f q≠f x) (bad:=bad) (good:=good) (fun j hj=>by
    have hjl:l[j]?=some l[j]:=List.getElem?_eq_getElem (by omega)
    rw [hs j _ hj hjl]
    constructor
    · intro hh;rw [if_neg (hh _ hjl)]
    · intro hh
      rw [if_pos]
      apply Classical.byContradiction
      intro hne
      refine hh (fun q hq=>?_)
      rw [hjl] at hq;injection hq with hq;subst hq;exact hne) (fun _=>hx)]
  congr 1
  have e:(∀ j,j<k→∀ q,l[j]?=some q→f q≠f x)↔(∀ (j:Nat) (q:α),j<k→l[j]?=some q→f q≠f x):=⟨fun h j q hj hq=>h j hj q hq,fun h j hj q hq=>h j q hj hq⟩
  rw [propext e]
theorem ZkJ (a:Zu) (h:sm YD a):Zda a=some (tr (ZpD a)):=by
  have hc:=ZtH h
  have hs:=Zw hc
  unfold Zda
  rw [Qc (Yv hc) (fun k c=>ZiW c∧∀ (j:Nat) (q:Zi),j<k→(Zu.Cells a)[j]?=some q→Zi.Name q≠Zi.Name c) (bad:=false) (good:=tr ((Zu.Cells a).length≤8))
    (fun k c hx hk _=>by
      simp only [ZaN,show (k:Int)<((Zu.Cells a).length:Int) from by omega,if_true,Zt,hx,Bq,ZnB c (Zfx hc hx)]
      by_cases hC:ZiW c
      · rw [if_pos (Yl hC),Zit (f:=Zi.Name) (l:=Zu.Cells a) (x:=c) (k:=k) (by omega) (by omega) (bad:=.inr false) (good:=.inl (Wq ((k:Int)+1),()))
          (fun j y hj hy=>by
            simp only [ZaM,show (j:Int)<(k:Int) from by omega,if_true,Zt,hy,Bq]
            split<;>rfl)
          (by simp only [ZaM,Int.lt_irrefl,if_false])]
        constructor
        · intro hh;rw [Y3 hh.2]
        · intro hh;rw [YH (fun q=>hh ⟨hC,q⟩)]
      · rw [if_neg (by rw [ZK hC];simp)]
        exact ⟨fun hh=>absurd hh.1 hC,fun _=>rfl⟩)
    (fun _=>by
      simp only [ZaN,Int.lt_irrefl,if_false]
      congr 2
      exact (ZlF (by rw [decide_eq_true_eq];omega)).symm)]
  rw [Zce]
  congr 1
  refine YI ?_
  unfold ZpD
  rw [Zfu,ZmI,←Q6]
  constructor
  · rintro ⟨q,q8⟩
    exact ⟨q8,fun k x hx=>(q k x hx).1,fun k x hx=>⟨(q k x hx).1.1,(q k x hx).2⟩⟩
  · rintro ⟨q8,q1,q2⟩
    exact ⟨fun k x hx=>⟨q1 k x hx,(q2 k x hx).2⟩,q8⟩
theorem Zdv (l:List (List UInt8)) (hl:l.length≤1048576) (hsm:∀ s∈l,s.length≤4611686018427387904):ZaB l=some (tr (Qp l l.length)):=by
  unfold ZaB
  rw [Qc (show Len l by show l.length≤4611686018427387904;omega) (fun k s=>VO s=true∧∀ (j:Nat) (q:List UInt8),j<k→l[j]?=some q→id q≠id s) (bad:=false) (good:=true)
    (fun k s hx hk _=>by
      simp only [Zbv,show (k:Int)<(l.length:Int) from by omega,if_true,Zt,hx,Bq,Zaa s (hsm s (List.mem_of_getElem? hx))]
      by_cases hC:VO s=true
      · rw [if_pos hC,Zit (f:=id) (l:=l) (x:=s) (k:=k) (by omega) (by omega) (bad:=.inr false) (good:=.inl (Wq ((k:Int)+1),()))
          (fun j y hj hy=>by
            simp only [Zbu,show (j:Int)<(k:Int) from by omega,if_true,Zt,hy,Bq,id]
            split<;>rfl)
          (by simp only [Zbu,Int.lt_irrefl,if_false])]
        constructor
        · intro hh;rw [Y3 hh.2]
        · intro hh;rw [YH (fun q=>hh ⟨hC,q⟩)]
      · rw [if_neg hC]
        exact ⟨fun hh=>absurd hh.1 hC,fun _=>rfl⟩)
    (fun _=>by simp only [Zbv,Int.lt_irrefl,if_false]),Zk1]
  congr 1
  refine YI ?_
  have:=ZmI id l
  rw [List.map_id] at this
  exact this.symm
def Zee (d:Zf):List (List UInt8):=(Zf.Instances d).map Zk.Name
def Zcb (d:Zf):List (List UInt8):=(Zf.Xe d).map Ya.Name
def ZiY (d:Zf):Prop:=(Zf.Instances d).length≤14∧(Zf.XJ d).length≤30∧(Zf.Xe d).length≤8∧Qp (Zee d) (Zee d).length∧Qp (Zf.XJ d) (Zf.XJ d).length∧Qp (Zcb d) (Zcb d).length
theorem gather {α ρ:Type} {l:List α} (hl:l.length≤1048576) (f:α→List UInt8) {step:List (List UInt8)×Int×Unit→Option ((List (List UInt8)×Int×Unit) ⊕ ρ)} {good:ρ}
    (hs:∀ (k:Nat) (x:α) (o:List (List UInt8)),l[k]?=some x→(k:Int)<(l.length:Int)→o.length=k→step (o,(k:Int),())=Zv ((o.length+[f x].length)*16≤140737488355328) (some (.inl (o++[f x],Wq ((k:Int)+1),()))))
    (hx:step (l.map f,(l.length:Int),())=some (.inr good)):Zr step (([]:List (List UInt8)),(0:Int),())=some good:=by
  refine (show Zr step (([]:List (List UInt8)),(0:Int),())=some good from J6 (l:=l) (fun k=>((l.map f).take k,(k:Int),())) (fun k x hx hk=>?_) ?_)
  · have hn:(l.map f)[k]?=some (f x):=by simp [hx]
    have hlen:((l.map f).take k).length=k:=by rw [List.length_take,List.length_map];omega
    rw [hs k x _ hx (by omega) hlen,Zj (by rw [hlen];simp;omega),YP hn,VI (by omega)]
  · have e0:(l.map f).take l.length=l.map f:=by rw [show l.length=(l.map f).length by simp,List.take_length]
    simp only [e0]
    exact hx
end Go.Proofs.YtpiemlnhjobopaaGreatDoor
