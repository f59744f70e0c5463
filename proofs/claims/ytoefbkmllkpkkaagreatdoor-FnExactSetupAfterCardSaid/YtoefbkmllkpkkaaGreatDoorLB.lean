/-
  Plain laws: clocks, their waves, roots, periods; which clocks are valid.
-/
import Derived.Test.YtoefbkmllkpkkaaGreatDoorLA
namespace Go.Proofs.YtoefbkmllkpkkaaGreatDoor
set_option linter.unusedVariables false
set_option linter.unusedSimpArgs false
open Go Go.Sx
structure Wv where
  period:Int
  rise:Int
  fall:Int
def ZAY (c:Zf) (w:Wv):Wv :=
  let w1:Wv:=if 1<Zf.Divide c then ⟨IntKind.i64.wrap (Zf.Divide c*w.period),w.rise,IntKind.i64.wrap (w.rise+IntKind.i64.wrap (IntKind.i64.wrap ((Zf.Divide c).tdiv 2)*w.period))⟩ else w
  if Zf.ZeJ c=true then ⟨w1.period,w1.fall,w1.rise⟩ else w1
def ZwY (l:List Zf):Nat→Int→Wv
  | 0,_=>⟨0,0,0⟩
  | n+1,k=>match l[k.toNat]? with
    | none=>⟨0,0,0⟩
    | some c=>if Zf.Source c<0 then ⟨Zf.Y3 c,Zf.XB c,Zf.X9 c⟩ else ZAY c (ZwY l n (Zf.Source c))
def Znz (l:List Zf) (k:Int):Wv:=ZwY l (k.toNat+1) k
def Zya (l:List Zf) (m:Int):Prop:=∀ (j:Nat) (c:Zf),(j:Int)<m→l[j]?=some c→Zf.Source c<(j:Int)
theorem Zn7 (l:List Zf):∀ (n:Nat) (k:Int),0≤k→k<n→Zya l (k+1)→ZwY l n k=Znz l k
  | 0,k,h0,h1,_=>by omega
  | n+1,k,h0,h1,hs=>by
    unfold Znz
    simp only [ZwY]
    cases hc:l[k.toNat]? with
    | none=>rfl
    | some c =>
      simp only
      split
      · rfl
      · rename_i hsrc
        have hlt:=hs k.toNat c (by omega) hc
        have hs':Zya l (Zf.Source c+1):=fun j c' hj hc'=>hs j c' (by omega) hc'
        have e1:=Zn7 l n (Zf.Source c) (by omega) (by omega) hs'
        rw [e1]
        have:∀ m:Nat,Zf.Source c<m→m<n+1→ZwY l m (Zf.Source c)=Znz l (Zf.Source c):=fun m hm hmn=>Zn7 l m (Zf.Source c) (by omega) hm hs'
        by_cases hk:k.toNat<n+1∧Zf.Source c<(k.toNat:Int)
        · rw [this k.toNat hk.2 hk.1]
        · omega
  termination_by n=>n
theorem Zxv (l:List Zf) (k:Int) (h0:0≤k) (c:Zf) (hc:l[k.toNat]?=some c) (hs:Zya l (k+1)) :
    Znz l k=if Zf.Source c<0 then ⟨Zf.Y3 c,Zf.XB c,Zf.X9 c⟩ else ZAY c (Znz l (Zf.Source c)):=by
  unfold Znz
  rw [ZwY,hc]
  simp only
  split
  · rfl
  · rename_i hsrc
    have hlt:=hs k.toNat c (by omega) hc
    rw [Zn7 l k.toNat (Zf.Source c) (by omega) hlt (fun j c' hj hc'=>hs j c' (by omega) hc')]
    rfl
def wvI (w:Wv):ZfH:=(w.period,(w.rise,w.fall,()),())
def wvS (w:Wv):XC:=(w.period,w.rise,w.fall,())
def Zxz (l:List Zf) (k:Int):Prop:=0≤k∧k<l.length∧Zya l (k+1)
theorem ZfS (l:List Zf):∀ (n:Nat) (k:Int),Zxz l k→(∀ r,ZaV n l k=some r→r=wvI (Znz l k))∧(k<n→ZaV n l k=some (wvI (Znz l k)))
  | 0,k,hp=>⟨fun r h=>by simp [ZaV] at h,fun h=>by have:=hp.1;omega⟩
  | n+1,k,hp=>by
    obtain ⟨h0,h1,h2⟩:=hp
    obtain ⟨c,hc,hc'⟩:=Zsq h0 h1
    have hw:=Zxv l k h0 c hc' h2
    simp only [ZaV,Zbf,hc,Option.bind_some]
    split
    · rename_i hs
      rw [if_pos hs] at hw
      rw [hw]
      exact ⟨fun r h=>by injection h with h;exact h.symm,fun _=>rfl⟩
    · rename_i hs
      rw [if_neg hs] at hw
      have hlt:=h2 k.toNat c (by omega) hc'
      have ih:=ZfS l n (Zf.Source c) ⟨by omega,by omega,fun j d hj hd=>h2 j d (by omega) hd⟩
      have fin:∀ o:Option ZfH,(∀ r,o=some r→r=wvI (Znz l (Zf.Source c)))→∀ F:ZfH→Option ZfH,F (wvI (Znz l (Zf.Source c)))=some (wvI (Znz l k))→(∀ r,o.bind F=some r→r=wvI (Znz l k))∧(o≠none→o.bind F=some (wvI (Znz l k))):=by
        intro o ho F hF
        cases o with
        | none=>exact ⟨fun r h=>(by cases h),fun h=>absurd rfl h⟩
        | some x =>
          have:=ho x rfl
          subst this
          rw [Option.bind_some,hF]
          exact ⟨fun r h=>by injection h with h;exact h.symm,fun _=>rfl⟩
      refine And.imp_right (fun h2 hk=>h2 (by rw [ih.2 (by omega)];simp)) (fin _ ih.1 _ ?_)
      rw [hw]
      simp only [ZAY,wvI]
      split<;>split<;>simp [*]
theorem ZrG {l:List Zf} {k:Int} (hp:Zxz l k):Zjj l k=some (wvI (Znz l k)) :=
  Zyd ⟨k.toNat+1,(ZfS l _ k hp).2 (by have:=hp.1;omega)⟩ (fun n r h=>(ZfS l n k hp).1 r h)
theorem ZgW (l:List Zf):∀ (n:Nat) (k:Int),Zxz l k→(∀ r,Zb8 n l k=some r→r=wvS (Znz l k))∧(k<n→Zb8 n l k=some (wvS (Znz l k)))
  | 0,k,hp=>⟨fun r h=>by simp [Zb8] at h,fun h=>by have:=hp.1;omega⟩
  | n+1,k,hp=>by
    obtain ⟨h0,h1,h2⟩:=hp
    obtain ⟨c,hc,hc'⟩:=Zsq h0 h1
    have hw:=Zxv l k h0 c hc' h2
    simp only [Zb8,Zch,hc,Option.bind_some]
    split
    · rename_i hs
      rw [if_pos hs] at hw
      rw [hw]
      exact ⟨fun r h=>by injection h with h;exact h.symm,fun _=>rfl⟩
    · rename_i hs
      rw [if_neg hs] at hw
      have hlt:=h2 k.toNat c (by omega) hc'
      have ih:=ZgW l n (Zf.Source c) ⟨by omega,by omega,fun j d hj hd=>h2 j d (by omega) hd⟩
      have fin:∀ o:Option XC,(∀ r,o=some r→r=wvS (Znz l (Zf.Source c)))→∀ F:XC→Option XC,F (wvS (Znz l (Zf.Source c)))=some (wvS (Znz l k))→(∀ r,o.bind F=some r→r=wvS (Znz l k))∧(o≠none→o.bind F=some (wvS (Znz l k))):=by
        intro o ho F hF
        cases o with
        | none=>exact ⟨fun r h=>(by cases h),fun h=>absurd rfl h⟩
        | some x =>
          have:=ho x rfl
          subst this
          rw [Option.bind_some,hF]
          exact ⟨fun r h=>by injection h with h;exact h.symm,fun _=>rfl⟩
      refine And.imp_right (fun h2 hk=>h2 (by rw [ih.2 (by omega)];simp)) (fin _ ih.1 _ ?_)
      rw [hw]
      simp only [ZAY,wvS]
      split<;>split<;>simp [*,Int.mul_comm]
theorem ZsB {l:List Zf} {k:Int} (hp:Zxz l k):ZkM l k=some (wvS (Znz l k)) :=
  Zyd ⟨k.toNat+1,(ZgW l _ k hp).2 (by have:=hp.1;omega)⟩ (fun n r h=>(ZgW l n k hp).1 r h)
def ZmE (c:Zf):Bool:=decide (0≤Zf.Place c)&&decide (0≤Zf.Y9 c)&&decide (Zf.Y9 c≤Zf.Qj c)&&decide (Zf.Qj c≤100000)&&within (Zf.JU c) 0 100000
def ZoV (c:Zf):Bool:=within (Zf.Y3 c) 2 100000&&within (Zf.XB c) 0 (IntKind.i64.wrap (Zf.Y3 c-1))&&within (Zf.X9 c) 0 (IntKind.i64.wrap (Zf.Y3 c-1))&&decide (Zf.XB c≠Zf.X9 c)&&decide (Zf.Divide c=1)&&!Zf.ZeJ c
def ZBZ (l:List Zf) (k:Int) (c:Zf):Bool:=within (Zf.Source c) 0 (IntKind.i64.wrap (k-1))&&within (Zf.Divide c) 1 8&&decide (Zf.Y3 c=0)&&decide (Zf.XB c=0)&&decide (Zf.X9 c=0)&&decide ((Znz l k).period≤100000)
def Zi9 (l:List Zf) (k:Int) (c:Zf):Bool:=ZmE c&&(if Zf.Source c=-1 then ZoV c else ZBZ l k c)
theorem Zoa (c:Zf):J4 c=some (ZoV c):=by
  unfold J4
  simp only [Vy,Option.bind_some]
  repeat' split
  all_goals simp [ZoV, *]
theorem Zm6 (c:Zf):ZeF c=some (ZoV c):=by
  unfold ZeF
  simp only [JC,Option.bind_some]
  repeat' split
  all_goals simp [ZoV, *]
theorem ZAt (c:Zf):ZmE c=(decide (0≤Zf.Place c)&&within (Zf.Y9 c) 0 100000&&within (Zf.Qj c) (Zf.Y9 c) 100000&&within (Zf.JU c) 0 100000):=by
  rw [Bool.eq_iff_iff]
  simp only [ZmE,within,Bool.and_eq_true,decide_eq_true_eq]
  omega
theorem Zpo (c:Zf) (hl:(Zf.Name c).length≤4611686018427387904):Zgm c=some (Jc (Zf.Name c)&&ZmE c):=by
  unfold Zgm
  rw [Zaf _ hl,ZAt]
  simp only [JC,Option.bind_some]
  repeat' split
  all_goals simp [*]
def Zur (l:List Zf) (m:Int):Prop:=∀ (j:Nat) (c:Zf),(j:Int)<m→l[j]?=some c→Zi9 l j c=true
theorem Zvb {l:List Zf} {k:Nat} {c:Zf} (h:Zi9 l k c=true) (hk:(k:Int)≤1000000):Zf.Source c=-1∨0≤Zf.Source c∧Zf.Source c<k:=by
  unfold Zi9 at h
  simp only [Bool.and_eq_true] at h
  split at h
  · exact .inl (by assumption)
  · have h2:=h.2
    unfold ZBZ at h2
    simp only [within,Bool.and_eq_true,decide_eq_true_eq] at h2
    rw [Qc (by omega) (by omega)] at h2
    omega
theorem Zur.src {l:List Zf} {m:Int} (h:Zur l m) (hm:m≤1000000):Zya l m:=by
  intro j c hj hc
  have:=Zvb (h j c hj hc) (by omega)
  omega
theorem Zsn {l:List Zf} {k:Int} {c:Zf} (h0:0≤k) (h1:k<l.length) (hk:k≤1000) (h:Zur l k) (hc:l[k.toNat]?=some c) (hs:Zf.Source c<k):Zxz l k:=by
  refine ⟨h0,h1,fun j d hj hd=>?_⟩
  by_cases hjk:(j:Int)<k
  · exact h.src (by omega) j d hjk hd
  · have:j=k.toNat:=by omega
    subst this
    rw [hc] at hd;injection hd with hd;subst hd
    omega
theorem Zr6 {s k:Int} (hk0:0≤k) (hk:k≤1000) (h:within s 0 (IntKind.i64.wrap (k-1))=true):0≤s∧s<k:=by
  rw [within_iff,Qc (by omega) (by omega)] at h
  omega
theorem ZwL (l:List Zf) (k:Int) (c:Zf):Zi9 l k c=(decide (0≤Zf.Place c)&&decide (0≤Zf.Y9 c)&&decide (Zf.Y9 c≤Zf.Qj c)&&decide (Zf.Qj c≤100000)&&within (Zf.JU c) 0 100000 &&
    (if Zf.Source c=-1 then ZoV c else within (Zf.Source c) 0 (IntKind.i64.wrap (k-1))&&within (Zf.Divide c) 1 8&&decide (Zf.Y3 c=0)&&decide (Zf.XB c=0)&&decide (Zf.X9 c=0)&&decide ((Znz l k).period≤100000))):=rfl
theorem Zq7 {l:List Zf} {k:Int} {c:Zf} (h0:0≤k) (h1:k<l.length) (hk:k≤1000) (h:Zur l k) (hc:l[k.toNat]?=some c):ZhJ l k=some (Zi9 l k c):=by
  have hw:within (Zf.Source c) 0 (IntKind.i64.wrap (k-1))=true→Zjj l k=some (wvI (Znz l k)):=fun hh=>ZrG (Zsn h0 h1 hk h hc (Zr6 h0 hk hh).2)
  unfold ZhJ
  rw [Qa h0 hc,ZwL]
  clear h0 h1 hk h hc
  simp only [Vy,Option.bind_some,Zoa]
  generalize ZoV c=pr
  generalize Zf.Place c=v1 at *
  generalize Zf.Y9 c=v2 at *
  generalize Zf.Qj c=v3 at *
  generalize Zf.JU c=v4 at *
  generalize Zf.Source c=v5 at *
  generalize Zf.Divide c=v6 at *
  generalize Zf.Y3 c=v7 at *
  generalize Zf.XB c=v8 at *
  generalize Zf.X9 c=v9 at *
  by_cases a1:v1<0
  · have:¬0≤v1:=by omega
    simp [a1,this]
  by_cases a2:v2<0
  · have:¬0≤v2:=by omega
    simp [a1,a2,this]
  by_cases a3:v3<v2
  · have:¬v2≤v3:=by omega
    simp [a1,a2,a3,this]
  by_cases a4:100000<v3
  · have:¬v3≤100000:=by omega
    simp [a1,a2,a3,a4,this]
  rw [if_neg a1,if_neg a2,if_neg a3,if_neg a4,decide_eq_true (show 0≤v1 by omega),decide_eq_true (show 0≤v2 by omega),decide_eq_true (show v2≤v3 by omega),decide_eq_true (show v3≤100000 by omega)]
  cases within v4 0 100000
  · simp
  simp only [if_true,Bool.true_and]
  by_cases a5:v5=-1
  · rw [if_pos a5,if_pos a5]
  rw [if_neg a5,if_neg a5]
  cases hw5:within v5 0 (IntKind.i64.wrap (k-1))
  · simp
  rw [hw hw5]
  simp only [if_true,Bool.true_and]
  cases within v6 1 8
  · simp
  by_cases a7:v7=0
  · by_cases a8:v8=0
    · by_cases a9:v9=0
      · simp [a7,a8,a9,wvI]
      · simp [a7,a8,a9]
    · simp [a7,a8]
  · simp [a7]
def Zjr (l:List Zf):List (List UInt8):=l.map Zf.Name
def Znh (l:List Zf):Prop:=l.length≤6∧Zur l l.length∧Qd (Zjr l) l.length
theorem Zph (l:List Zf):Zgc l=some (tr (Znh l)):=by
  unfold Zgc
  split
  · rename_i h
    rw [ZR]
    intro hh
    have:=hh.1
    omega
  · rename_i h6
    refine Xi l.length (fun k v=>v.2.1=(k:Int)∧v.1=Zjr (l.take k)∧Zur l k) _ ⟨rfl,rfl,fun j s hj=>by omega⟩ ?_ ?_
    · rintro k ⟨ns,i,⟨⟩⟩ hk ⟨hi,hns,hS⟩
      simp only at hi hns
      subst hi
      have hx:l[k]?=some l[k]:=List.getElem?_eq_getElem hk
      generalize l[k]=x at hx
      simp only [ZdE,Zt,hx,Option.bind_some,show (k:Int)<(l.length:Int) from by omega,if_true,Qc (show (-9223372036854775808:Int)≤(k:Int)+1 by omega) (by omega)]
      rw [Zq7 (by omega) (by omega) (by omega) hS (by simpa using hx),Option.bind_some]
      split
      · rename_i hok
        have hlen:ns.length=k:=by rw [hns];simp [Zjr];omega
        rw [Zj (by simp only [List.length_singleton];omega)]
        refine .inl ⟨_,rfl,by simp,by rw [hns,Z6 hx];simp [Zjr],fun j d hj hd=>?_⟩
        by_cases e:(j:Int)<k
        · exact hS j d e hd
        · have:j=k:=by omega
          subst this
          rw [hx] at hd;injection hd with hd;subst hd
          exact hok
      · rename_i hok
        right
        rw [ZR]
        intro hh
        exact hok (hh.2.1 k x (by omega) hx)
    · rintro ⟨ns,i,⟨⟩⟩ ⟨hi,hns,hS⟩
      simp only at hi hns
      subst hi
      rw [List.take_length] at hns
      have hlen:(Zjr l).length=l.length:=by simp [Zjr]
      subst hns
      simp only [ZdE,Int.lt_irrefl,if_false]
      rw [Vh _ (by omega),Option.bind_some,hlen]
      congr 2
      by_cases hN:Qd (Zjr l) l.length
      · rw [Ye hN,Ye ⟨by omega,hS,hN⟩]
      · rw [ZR hN,ZR (fun hh=>hN hh.2.2)]
end Go.Proofs.YtoefbkmllkpkkaaGreatDoor
/-
  Plain laws: the reference's valid clocks; codes; the waves of valid clocks.
-/
namespace Go.Proofs.YtoefbkmllkpkkaaGreatDoor
set_option linter.unusedVariables false
set_option linter.unusedSimpArgs false
open Go Go.Sx
def ZBj (l:List Zf):Prop:=∀ c∈l,(Zf.Name c).length≤4611686018427387904
theorem ZkN {l:List Zf} {k:Nat} {c:Zf} (h:l[k]?=some c):(Zjr l)[k]?=some (Zf.Name c):=by simp [Zjr,h]
theorem Zmm {l:List Zf} {k:Nat} {c:Zf} (hk:k<l.length) (h6:l.length≤6) (hc:l[k]?=some c) (hpre:Zur l k) (hpl:ZmE c=true) :
    Zv (fun v=>ZaT l (k:Int) c v.1) ((0:Int),()) =
      some (if Zf.Name c∈(Zjr l).take k then .inr false else if Zi9 l k c=true then .inl ((k:Int)+1,()) else .inr false):=by
  refine Xi k (fun m v=>v.1=(m:Int)∧Zf.Name c ∉ (Zjr l).take m) _ ⟨rfl,by simp⟩ ?_ ?_
  · rintro m ⟨i,⟨⟩⟩ hm ⟨hi,hn⟩
    simp only at hi
    subst hi
    have hx:l[m]?=some l[m]:=List.getElem?_eq_getElem (by omega)
    generalize l[m]=x at hx
    have hxn:=ZkN hx
    simp only [ZaT,Zt,hx,Option.bind_some,show (m:Int)<(k:Int) from by omega,if_true,Qc (show (-9223372036854775808:Int)≤(m:Int)+1 by omega) (by omega)]
    split
    · rename_i e
      right
      rw [if_pos]
      rw [←e]
      refine List.mem_iff_getElem?.2 ⟨m,?_⟩
      rw [List.getElem?_take,if_pos hm,hxn]
    · rename_i e
      refine .inl ⟨_,rfl,by simp,?_⟩
      rw [Z6 hxn]
      simp only [List.mem_append,List.mem_singleton,not_or]
      exact ⟨hn,fun h=>e h.symm⟩
  · rintro ⟨i,⟨⟩⟩ ⟨hi,hn⟩
    simp only at hi
    subst hi
    have hw:within (Zf.Source c) 0 (IntKind.i64.wrap ((k:Int)-1))=true→ZkM l k=some (wvS (Znz l k)):=fun hh =>
      ZsB (Zsn (by omega) (by omega) (by omega) hpre (by simpa using hc) (Zr6 (by omega) (by omega) hh).2)
    rw [if_neg hn]
    simp only [ZaT,Int.lt_irrefl,if_false,Zm6,JC,Option.bind_some,Qc (show (-9223372036854775808:Int)≤(k:Int)+1 by omega) (by omega)]
    have e:Zi9 l k c=(ZmE c&&_):=rfl
    rw [e,hpl,Bool.true_and]
    by_cases a1:Zf.Source c=-1
    · rw [if_pos a1,if_pos a1]
      cases ZoV c<;>simp
    rw [if_neg a1,if_neg a1]
    unfold ZBZ
    cases hw5:within (Zf.Source c) 0 (IntKind.i64.wrap ((k:Int)-1))
    · simp
    rw [hw hw5]
    simp only [if_true,Bool.true_and,Option.bind_some]
    cases within (Zf.Divide c) 1 8
    · simp
    by_cases a7:Zf.Y3 c=0
    · by_cases a8:Zf.XB c=0
      · by_cases a9:Zf.X9 c=0
        · by_cases a10:100000<(Znz l k).period
          · have:¬(Znz l k).period≤100000:=by omega
            simp [a7,a8,a9,wvS,a10,this]
          · have:(Znz l k).period≤100000:=by omega
            simp [a7,a8,a9,wvS,a10,this]
        · simp [a7,a8,a9]
      · simp [a7,a8]
    · simp [a7]
theorem Zpi (l:List Zf) (hn:ZBj l) (hl:l.length≤4611686018427387904):Zgn l=some (tr (Znh l)):=by
  unfold Zgn
  refine Xi l.length (fun k v=>v.1=(k:Int)∧(0<k→l.length≤6)∧Zur l k∧Qd (Zjr l) k) _ ⟨rfl,by omega,fun j s hj=>by omega,fun j s hj=>by omega⟩ ?_ ?_
  · rintro k ⟨i,⟨⟩⟩ hk ⟨hi,_,hS,hN⟩
    simp only at hi
    subst hi
    have hx:l[k]?=some l[k]:=List.getElem?_eq_getElem hk
    generalize l[k]=x at hx
    simp only [Zdw,Zt,hx,Option.bind_some,show (k:Int)<(l.length:Int) from by omega,if_true]
    split
    · rename_i h6
      have h6':l.length≤6:=by omega
      rw [Zpo _ (hn x (List.mem_of_getElem? hx)),Option.bind_some]
      split
      · rename_i hp
        simp only [Bool.and_eq_true] at hp
        rw [Zmm hk h6' hx hS hp.2]
        split
        · rename_i hm
          right
          rw [ZR]
          exact fun hh=>(hh.2.2 k (Zf.Name x) hk (ZkN hx)).2 hm
        · rename_i hm
          split
          · rename_i hok
            refine .inl ⟨_,rfl,by simp,fun _=>h6',fun j d hj hd=>?_,fun j s hj hs=>?_⟩
            · by_cases e:(j:Int)<k
              · exact hS j d e hd
              · have:j=k:=by omega
                subst this
                rw [hx] at hd;injection hd with hd;subst hd
                exact hok
            · by_cases e:j<k
              · exact hN j s e hs
              · have:j=k:=by omega
                subst this
                rw [ZkN hx] at hs;injection hs with hs;subst hs
                exact ⟨hp.1,hm⟩
          · rename_i hok
            right
            rw [ZR]
            exact fun hh=>hok (hh.2.1 k x (by omega) hx)
      · rename_i hp
        right
        rw [ZR]
        intro hh
        have h1:=(hh.2.2 k (Zf.Name x) hk (ZkN hx)).1
        have h2:=hh.2.1 k x (by omega) hx
        unfold Zi9 at h2
        simp only [Bool.and_eq_true] at h2
        exact hp (by rw [h1,h2.1];rfl)
    · rename_i h6
      right
      rw [ZR (fun hh=>h6 (by have:=hh.1;omega))]
      simp [h6]
  · rintro ⟨i,⟨⟩⟩ ⟨hi,_,hS,hN⟩
    simp only at hi
    subst hi
    simp only [Zdw,Int.lt_irrefl,if_false]
    by_cases h6:(l.length:Int)≤6
    · rw [Ye ⟨by omega,hS,hN⟩,decide_eq_true h6]
    · rw [ZR (fun hh=>h6 (by have:=hh.1;omega)),decide_eq_false h6]
structure ZKh (w:Wv):Prop where
  p1:2≤w.period
  p2:w.period≤100000
  r1:0≤w.rise
  r2:w.rise<w.period
  f1:0≤w.fall
  f2:w.fall<w.period
end Go.Proofs.YtoefbkmllkpkkaaGreatDoor
/-
  Plain laws: lists of numbers, tables.
-/
namespace Go.Proofs.YtoefbkmllkpkkaaGreatDoor
set_option linter.unusedVariables false
set_option linter.unusedSimpArgs false
open Go Go.Sx
theorem Ze5 {a b:Bool} (h:a=true↔b=true):a=b:=by cases a<;>cases b<;>simp_all
theorem YI {P Q:Prop} (h:P↔Q):tr P=tr Q:=by rw [propext h]
def Inc (l:List Int):Prop:=∀ (k:Nat) (x y:Int),l[k]?=some x→l[k+1]?=some y→x<y
def ZjE (l:List Int) (lo hi:Int):Prop:=∀ x∈l,lo≤x∧x≤hi
theorem Znd (l:List Int) (lo hi:Int):allIn l lo hi=true↔ZjE l lo hi:=by
  unfold allIn ZjE
  rw [List.all_eq_true]
  simp only [within_iff]
theorem Vj (l:List Int):Y1 l=some (l.length:Int):=rfl
theorem ZcO (l:List Int) (hl:Len l):VE l=some (tr (Inc l)):=by
  unfold VE
  have h4:l.length≤4611686018427387904:=hl
  by_cases h0:l.length=0
  · have:l=[]:=List.eq_nil_of_length_eq_zero h0
    subst this
    rw [ZkG (r:=true) (by rfl)]
    have h0:Inc []:=fun k x y h=>by simp at h
    rw [Ye h0]
  have:=Zwj (ρ:=Bool) 1 l.length (by omega) h4 (fun k=>∀ x y,l[k-1]?=some x→l[k]?=some y→x<y) (step:=fun v=>Qi l v.1) (bad:=false) (good:=true)
    (fun k h1 h2 _=>by
      obtain ⟨x,hx⟩:∃ x,l[k-1]?=some x:=⟨_,List.getElem?_eq_getElem (by omega)⟩
      obtain ⟨y,hy⟩:∃ y,l[k]?=some y:=⟨_,List.getElem?_eq_getElem h2⟩
      have e1:IntKind.i64.wrap ((k:Int)-1)=((k-1:Nat):Int):=by rw [Qc (by omega) (by omega)];omega
      simp only [Qi,show (k:Int)<(l.length:Int) from by omega,if_true,e1,Zt,hx,hy,Option.bind_some]
      refine ⟨fun h=>?_,fun h=>?_⟩
      · have:=h x y rfl rfl
        rw [if_neg (by omega)]
      · rw [if_pos]
        rcases Int.lt_or_le x y with h' | h'
        · exact absurd (fun a b ha hb=>by injection ha with ha;injection hb with hb;subst ha;subst hb;exact h') h
        · exact h')
    (fun _=>by simp only [Qi,Int.lt_irrefl,if_false])
  refine (show Zv (fun v=>Qi l v.1) ((1:Int),())=_ from this).trans ?_
  rw [Zm3]
  congr 1
  refine YI ⟨fun h k x y hx hy=>?_,fun h j h1 h2 x y hx hy=>?_⟩
  · exact h (k+1) (by omega) (List.getElem?_eq_some_iff.1 hy).1 x y (by simpa using hx) hy
  · exact h (j-1) x y hx (by rw [show j-1+1=j by omega];exact hy)
def Zhi (l:List Int):Prop:=1≤l.length∧l.length≤4∧ZjE l 0 100000∧Inc l
theorem Zly (l:List Int) (hl:Len l):Zhj l=some (tr (Zhi l)):=by
  unfold Zhj
  rw [Vj,Option.bind_some,Vy,Option.bind_some,Zcq l _ _ hl,Option.bind_some,ZcO l hl,Option.bind_some]
  have e:tr (Zhi l)=(within (l.length:Int) 1 4&&allIn l 0 100000&&tr (Inc l)):=by
    refine Zm2 ?_
    simp only [Bool.and_eq_true,within_iff,Znd,Xa,Zhi]
    exact ⟨fun ⟨⟨⟨a,b⟩,c⟩,d⟩=>⟨by omega,by omega,c,d⟩,fun ⟨a,b,c,d⟩=>⟨⟨⟨by omega,by omega⟩,c⟩,d⟩⟩
  rw [e]
  cases within (l.length:Int) 1 4<;>cases allIn l 0 100000<;>cases tr (Inc l)<;>rfl
theorem ZjL (l:List Int) (hl:Len l):ZfQ l=some (tr (Zhi l)):=by
  unfold ZfQ
  have h4:l.length≤4611686018427387904:=hl
  rw [QA hl (fun k x=>(0≤x∧x≤100000)∧(0<k→∀ y,l[k-1]?=some y→y<x)) (bad:=false) (good:=decide (1≤l.length∧l.length≤4))
    (fun k x hx hk _=>by
      simp only [Zes,show (k:Int)<(l.length:Int) from by omega,if_true,Zt,hx,Option.bind_some,JC]
      by_cases hw:within x 0 100000=true
      · rw [if_pos hw]
        by_cases h0:0<k
        · obtain ⟨y,hy⟩:∃ y,l[k-1]?=some y:=⟨_,List.getElem?_eq_getElem (by omega)⟩
          have e1:IntKind.i64.wrap ((k:Int)-1)=((k-1:Nat):Int):=by rw [Qc (by omega) (by omega)];omega
          rw [if_pos (by omega),e1,Zt,hy,Option.bind_some]
          refine ⟨fun h=>?_,fun h=>?_⟩
          · rw [if_neg (by have:=h.2 h0 y rfl;omega)]
          · rw [if_pos]
            rcases Int.lt_or_le y x with h' | h'
            · exact absurd ⟨(within_iff _ _ _).1 hw,fun _ z hz=>by injection hz with hz;subst hz;exact h'⟩ h
            · exact h'
        · rw [if_neg (by omega)]
          exact ⟨fun _=>rfl,fun h=>absurd ⟨(within_iff _ _ _).1 hw,fun h'=>absurd h' h0⟩ h⟩
      · rw [if_neg hw]
        exact ⟨fun h=>absurd ((within_iff _ _ _).2 h.1) hw,fun _=>rfl⟩)
    (fun _=>by
      simp only [Zes,Int.lt_irrefl,if_false]
      by_cases h1:1≤l.length
      · rw [if_pos (by omega)]
        congr 2
        rw [decide_eq_decide];omega
      · rw [if_neg (by omega)]
        simp [h1])]
  congr 1
  refine Ze5 ?_
  rw [Xa]
  by_cases h:ZfU l (fun k x=>(0≤x∧x≤100000)∧(0<k→∀ y,l[k-1]?=some y→y<x))
  · rw [YX h,decide_eq_true_eq]
    constructor
    · rintro ⟨h1,h2⟩
      refine ⟨h1,h2,fun x hx=>?_,fun k x y hx hy=>?_⟩
      · obtain ⟨k,hk⟩:=List.mem_iff_getElem?.1 hx
        exact (h k x hk).1
      · exact (h (k+1) y hy).2 (by omega) x (by simpa using hx)
    · intro hh
      exact ⟨hh.1,hh.2.1⟩
  · rw [YM h]
    constructor
    · intro hh;cases hh
    · intro hh
      refine absurd ?_ h
      intro k x hk
      refine ⟨hh.2.2.1 x (List.mem_of_getElem? hk),fun h0 y hy=>?_⟩
      exact hh.2.2.2 (k-1) y x hy (by rw [show k-1+1=k by omega];exact hk)
def ZeS (t:ZB):Prop:=Zhi (ZB.Zh2 t)∧Zhi (ZB.Loads t)∧(ZB.Values t).length=(ZB.Zh2 t).length*(ZB.Loads t).length∧ZjE (ZB.Values t) (-1000000) 1000000
def ZB9 (t:ZB):Prop:=Len (ZB.Zh2 t)∧Len (ZB.Loads t)∧Len (ZB.Values t)
theorem Zhi.mul {a b:List Int} (ha:Zhi a) (hb:Zhi b):a.length*b.length≤16:=by
  have h1:=ha.2.1
  have h2:=hb.2.1
  calc a.length*b.length≤4*4:=Nat.mul_le_mul h1 h2
    _=16:=rfl
theorem Zv7 {a b:List Int} (ha:Zhi a) (hb:Zhi b):IntKind.i64.wrap ((a.length:Int)*(b.length:Int))=((a.length*b.length:Nat):Int):=by
  have:=ha.mul hb
  have e:(a.length:Int)*(b.length:Int)=((a.length*b.length:Nat):Int):=by simp
  rw [e,Qc (by omega) (by omega)]
theorem ZqR (t:ZB) (h:ZB9 t):ZhV t=some (tr (ZeS t)):=by
  unfold ZhV
  rw [Zly _ h.1,Option.bind_some]
  by_cases h1:Zhi (ZB.Zh2 t)
  · rw [if_pos (Ye h1),Zly _ h.2.1,Option.bind_some]
    by_cases h2:Zhi (ZB.Loads t)
    · rw [if_pos (Ye h2),Zv7 h1 h2]
      by_cases h3:(ZB.Values t).length=(ZB.Zh2 t).length*(ZB.Loads t).length
      · rw [if_pos (by rw [h3]),Zcq _ _ _ h.2.2,Option.bind_some]
        congr 1
        refine Ze5 ?_
        rw [Znd,Xa]
        exact ⟨fun h4=>⟨h1,h2,h3,h4⟩,fun h4=>h4.2.2.2⟩
      · rw [if_neg (by omega),ZR (fun hh=>h3 hh.2.2.1)]
    · rw [if_neg (by rw [ZR h2];simp),ZR (fun hh=>h2 hh.2.1)]
  · rw [if_neg (by rw [ZR h1];simp),ZR (fun hh=>h1 hh.1)]
theorem ZqE (t:ZB) (h:ZB9 t):ZhT t=some (tr (ZeS t)):=by
  unfold ZhT
  rw [ZjL _ h.1,Option.bind_some]
  by_cases h1:Zhi (ZB.Zh2 t)
  · rw [if_pos (Ye h1),ZjL _ h.2.1,Option.bind_some]
    by_cases h2:Zhi (ZB.Loads t)
    · rw [if_pos (Ye h2),Zv7 h1 h2]
      by_cases h3:(ZB.Values t).length=(ZB.Zh2 t).length*(ZB.Loads t).length
      · rw [if_pos (by rw [h3]),QA h.2.2 (fun k x=>-1000000≤x∧x≤1000000) (bad:=false) (good:=true)
          (fun k x hx hk _=>by
            simp only [Zeg,show (k:Int)<((ZB.Values t).length:Int) from by omega,if_true,Zt,hx,Option.bind_some,JC,within_iff]
            exact ⟨fun hh=>by rw [if_pos hh],fun hh=>by rw [if_neg hh]⟩)
          (fun _=>by simp only [Zeg,Int.lt_irrefl,if_false]),Zm3]
        congr 1
        refine YI ⟨fun h4=>⟨h1,h2,h3,fun x hx=>?_⟩,fun h4 k x hx=>h4.2.2.2 x (List.mem_of_getElem? hx)⟩
        obtain ⟨k,hk⟩:=List.mem_iff_getElem?.1 hx
        exact h4 k x hk
      · rw [if_neg (by omega),ZR (fun hh=>h3 hh.2.2.1)]
    · rw [if_neg (by rw [ZR h2];simp),ZR (fun hh=>h2 hh.2.1)]
  · rw [if_neg (by rw [ZR h1];simp),ZR (fun hh=>h1 hh.1)]
theorem Ztw (x:Int) (l:List Int) (hl:Len (x::l)):Vs (x::l)=some (l.foldl min x):=by
  unfold Vs
  have h4:(x::l).length≤4611686018427387904:=hl
  have e1:¬(((x::l).length:Int)<1):=by simp only [List.length_cons];omega
  have e2:atI (x::l) (0:Int)=some x:=rfl
  rw [if_neg e1,e2,Option.bind_some]
  refine Xi l.length (fun k v=>v.1=(l.take k).foldl min x∧v.2.1=(((k+1:Nat)):Int)) _ ⟨by simp,rfl⟩ ?_ ?_
  · rintro k ⟨m,i,⟨⟩⟩ hk ⟨hm,hi⟩
    simp only at hm hi
    subst hm;subst hi
    have hx:l[k]?=some l[k]:=List.getElem?_eq_getElem hk
    have hx1:(x::l)[k+1]?=some l[k]:=by simp
    simp only [Vg,Zt,hx1,Option.bind_some,show ((k+1:Nat):Int)<((x::l).length:Int) from by simp;omega,if_true]
    refine .inl ⟨_,rfl,?_,?_⟩
    · rw [Z6 hx,List.foldl_append];rfl
    · simp only [List.length_cons] at h4
      show IntKind.i64.wrap (((k+1:Nat):Int)+1)=((k+1+1:Nat):Int)
      rw [Qc (by omega) (by omega)];omega
  · rintro ⟨m,i,⟨⟩⟩ ⟨hm,hi⟩
    simp only at hm hi
    subst hm;subst hi
    rw [List.take_length]
    simp only [Vg,show ¬(((l.length+1:Nat):Int)<((x::l).length:Int)) from by simp,if_false]
theorem ZmM (x:Int) (l:List Int):l.foldl min x<0↔x<0∨∃ y∈l,y<0:=by
  induction l generalizing x with
  | nil=>simp
  | cons y r ih =>
    simp only [List.foldl_cons,ih,List.mem_cons,exists_eq_or_imp]
    rw [show min x y<0↔x<0∨y<0 by omega,or_assoc]
def ZfB (l:List ZB) (pos:Bool):Prop:=l.length=2∧∀ t∈l,ZeS t∧(pos=true→∀ v∈ZB.Values t,0≤v)
theorem ZeS.some {t:ZB} (h:ZeS t):∃ x l,ZB.Values t=x::l:=by
  have h1:=h.1.1
  have h2:=h.2.1.1
  have h3:=h.2.2.1
  have:1*1≤(ZB.Zh2 t).length*(ZB.Loads t).length:=Nat.mul_le_mul h1 h2
  cases hv:ZB.Values t with
  | nil=>rw [hv] at h3;simp at h3;omega
  | cons x l=>exact ⟨x,l,rfl⟩
theorem Zk3 (t:ZB) (pos:Bool) (h:ZB9 t):VI t pos=some (! tr (ZeS t∧(pos=true→∀ v∈ZB.Values t,0≤v))):=by
  unfold VI
  rw [ZqR _ h,Option.bind_some]
  by_cases h1:ZeS t
  · rw [if_pos (Ye h1)]
    cases pos
    · rw [if_neg (by simp),Ye ⟨h1,fun e=>by cases e⟩];rfl
    · obtain ⟨x,l,hv⟩:=h1.some
      have hlen:=h.2.2
      rw [if_pos rfl,hv]
      rw [hv] at hlen
      rw [Ztw x l hlen,Option.bind_some]
      congr 1
      refine Ze5 ?_
      rw [decide_eq_true_eq,ZmM,Bool.not_eq_true',←Bool.not_eq_true,Xa]
      constructor
      · rintro (hh | ⟨y,hy,hh⟩) ⟨_,hall⟩
        · have:=hall rfl x (by simp);omega
        · have:=hall rfl y (by simp [hy]);omega
      · intro hh
        apply Classical.byContradiction
        intro hn
        refine hh ⟨h1,fun _ v hvm=>?_⟩
        rcases List.mem_cons.1 hvm with rfl | hvm
        · exact Int.not_lt.1 fun hlt=>hn (.inl hlt)
        · exact Int.not_lt.1 fun hlt=>hn (.inr ⟨v,hvm,hlt⟩)
  · rw [if_neg (by rw [ZR h1];simp),ZR (fun hh=>h1 hh.1)];rfl
def ZBA (l:List ZB):Prop:=Len l∧∀ t∈l,ZB9 t
theorem Ze9 (l:List ZB) (pos:Bool) (h:ZBA l):Zbm l pos=some (tr (ZfB l pos)):=by
  unfold Zbm
  by_cases h2:l.length=2
  · rw [if_pos (by omega),X5 h.1 (fun t=>! tr (ZeS t∧(pos=true→∀ v∈ZB.Values t,0≤v))) (fun t ht=>Zk3 t pos (h.2 t ht)),Option.bind_some]
    congr 1
    refine Ze5 ?_
    rw [Bool.not_eq_true',List.any_eq_false,Xa]
    simp only [Bool.not_eq_true',Bool.not_eq_false,Xa,Bool.not_eq_true]
    exact ⟨fun hh=>⟨h2,hh⟩,fun hh=>hh.2⟩
  · rw [if_neg (by omega),ZR (fun hh=>h2 hh.1)]
end Go.Proofs.YtoefbkmllkpkkaaGreatDoor
/-
  Plain laws: pins, arcs, cells.
-/
namespace Go.Proofs.YtoefbkmllkpkkaaGreatDoor
set_option linter.unusedVariables false
set_option linter.unusedSimpArgs false
open Go Go.Sx
theorem Zhr {α τ ρ:Type} {l:List α} (pk:Nat→τ) (P:Nat→α→Prop) {step:τ→Option (τ ⊕ ρ)} {bad good:ρ}
    (hs:∀ (k:Nat) (x:α),l[k]?=some x→k<l.length→(∀ (j:Nat) (y:α),j<k→l[j]?=some y→P j y)→(P k x→step (pk k)=some (.inl (pk (k+1))))∧(¬P k x→step (pk k)=some (.inr bad)))
    (hx:ZfU l P→step (pk l.length)=some (.inr good)):Zv step (pk 0)=some (sel (ZfU l P) good bad):=by
  refine Xi l.length (fun k v=>v=pk k∧∀ (j:Nat) (y:α),j<k→l[j]?=some y→P j y) _ ⟨rfl,fun j y hj=>by omega⟩ ?_ ?_
  · rintro k v hk ⟨rfl,hS⟩
    have hx:l[k]?=some l[k]:=List.getElem?_eq_getElem hk
    obtain ⟨h1,h2⟩:=hs k _ hx hk hS
    by_cases hP:P k l[k]
    · refine .inl ⟨_,h1 hP,rfl,fun j y hj hy=>?_⟩
      by_cases hjk:j<k
      · exact hS j y hjk hy
      · have:j=k:=by omega
        subst this
        rw [hx] at hy;injection hy with hy;subst hy
        exact hP
    · right
      rw [h2 hP,YM (fun h=>hP (h k _ hx))]
  · rintro v ⟨rfl,hS⟩
    have hA:ZfU l P:=fun k x hk=>hS k x (List.getElem?_eq_some_iff.1 hk).1 hk
    rw [hx hA,YX hA]
theorem Yo {α τ ρ:Type} {l:List α} (pk:Nat→τ) {step:τ→Option (τ ⊕ ρ)} {good:ρ}
    (hs:∀ (k:Nat) (x:α),l[k]?=some x→k<l.length→step (pk k)=some (.inl (pk (k+1)))) (hx:step (pk l.length)=some (.inr good)):Zv step (pk 0)=some good:=by
  have:=Zhr (l:=l) pk (fun _ _=>True) (step:=step) (bad:=good) (good:=good) (fun k x h1 h2 _=>⟨fun _=>hs k x h1 h2,fun h=>absurd trivial h⟩) (fun _=>hx)
  rw [this,YX (show ZfU l (fun _ _=>True) from fun _ _ _=>trivial)]
theorem ZqA {ρ:Type} (n:Nat) (hn:n≤4611686018427387904) (P:Nat→Prop) {step:Int×Unit→Option ((Int×Unit) ⊕ ρ)} {bad good:ρ}
    (hs:∀ k:Nat,k<n→(P k→step ((k:Int),())=some (.inl (IntKind.i64.wrap ((k:Int)+1),())))∧(¬P k→step ((k:Int),())=some (.inr bad)))
    (hx:(∀ j,j<n→P j)→step ((n:Int),())=some (.inr good)):Zv step ((0:Int),())=some (sel (∀ j,j<n→P j) good bad):=by
  have:=Zwj (ρ:=ρ) 0 n (by omega) hn P (step:=step) (bad:=bad) (good:=good) (fun k _ h _=>hs k h) (fun h=>hx (fun j hj=>h j (by omega) hj))
  refine (show Zv step ((0:Int),())=_ from this).trans ?_
  congr 1
  have e:(∀ j,0≤j→j<n→P j)↔(∀ j,j<n→P j):=⟨fun h j hj=>h j (by omega) hj,fun h j _ hj=>h j hj⟩
  rw [propext e]
theorem YT {t:Ty} {l:List t.den} (h:sm (.sl t) l):Len l:=by
  have h1:(l.length:Int)≤1048576:=h.1
  show l.length≤4611686018427387904
  omega
theorem ZgU {s:List UInt8} (h:sm .str s):s.length≤4611686018427387904:=by
  have h1:(s.length:Int)≤1048576:=h
  omega
theorem Zr9 {t:Ty} {l:List t.den} (h:sm (.sl t) l) {x:t.den} (hx:x∈l):sm t x:=h.2 x hx
theorem Jd {t:Ty} {l:List t.den} (h:sm (.sl t) l) {k:Nat} {x:t.den} (hx:l[k]?=some x):sm t x:=h.2 x (List.mem_of_getElem? hx)
theorem Zo {t:Ty} {l:List t.den} (h:sm (.sl t) l):l.length≤1048576:=by
  have h1:(l.length:Int)≤1048576:=h.1
  omega
theorem ZwA {t:ZB} (h:sm YZ t):ZB9 t:=⟨YT (t:=.int .i64) h.1,YT (t:=.int .i64) h.2.1,YT (t:=.int .i64) h.2.2.1⟩
theorem ZiQ {l:List ZB} (h:sm (.sl YZ) l):ZBA l:=⟨YT h,fun t ht=>ZwA (Zr9 h ht)⟩
theorem Zmf (t:ZB) (h:ZB9 t):∃ r,Zdc t=some r∧(ZeS t→r.2=0∧(r.1.1<0↔∃ v∈ZB.Values t,v<0))∧(¬ZeS t→r.2=1):=by
  unfold Zdc
  rw [ZqE _ h,Option.bind_some]
  by_cases h1:ZeS t
  · rw [if_pos (Ye h1)]
    obtain ⟨x,l,hv⟩:=h1.some
    have h4:(x::l).length≤4611686018427387904:=by rw [←hv];exact h.2.2
    have e2:atI (ZB.Values t) (0:Int)=some x:=by rw [hv];rfl
    rw [e2,Option.bind_some]
    have:=Yo (l:=l) (ρ:=YG×Int) (fun k=>((((k+1:Nat)):Int),(l.take k).foldl min x,(l.take k).foldl max x,())) (step:=fun v=>V8 t v.1 v.2.1 v.2.2.1) (good:=((l.foldl min x,l.foldl max x,()),0))
      (fun k y hy hk=>by
        have hx1:(x::l)[k+1]?=some y:=by simpa using hy
        simp only [List.length_cons] at h4
        simp only [V8,hv,Zt,hx1,Option.bind_some,show ((k+1:Nat):Int)<((x::l).length:Int) from by simp;omega,if_true]
        rw [Z6 hy,List.foldl_append,List.foldl_append,Qc (by omega) (by omega)]
        rfl)
      (by
        simp only [V8,hv,List.take_length,show ¬(((l.length+1:Nat):Int)<((x::l).length:Int)) from by simp,if_false])
    refine ⟨_,this,fun _=>⟨rfl,?_⟩,fun hn=>absurd h1 hn⟩
    rw [hv]
    refine (ZmM x l).trans ?_
    simp
  · rw [if_neg (by rw [ZR h1];simp)]
    exact ⟨_,rfl,fun hn=>absurd hn h1,fun _=>rfl⟩
theorem ZeN (l:List ZB) (pos:Bool) (h:ZBA l):YQ l pos=some (tr (ZfB l pos)):=by
  unfold YQ
  by_cases h2:l.length=2
  · rw [if_pos (by omega),QA h.1 (fun k t=>ZeS t∧(pos=true→∀ v∈ZB.Values t,0≤v)) (bad:=false) (good:=true)
      (fun k t hx hk _=>by
        obtain ⟨r,hr,hr1,hr2⟩:=Zmf t (h.2 t (List.mem_of_getElem? hx))
        simp only [ZcV,show (k:Int)<2 from by omega,if_true,Zt,hx,Option.bind_some,hr]
        by_cases ht:ZeS t
        · obtain ⟨e1,e2⟩:=hr1 ht
          rw [if_pos e1]
          cases pos
          · simp only [Bool.false_eq_true,if_false]
            exact ⟨fun _=>trivial,fun hn=>absurd ⟨ht,fun e=>by cases e⟩ hn⟩
          · simp only [if_true]
            refine ⟨fun hh=>?_,fun hn=>?_⟩
            · rw [if_neg]
              intro hlt
              obtain ⟨v,hv,hv0⟩:=e2.1 hlt
              have:=hh.2 trivial v hv
              omega
            · rw [if_pos]
              apply Classical.byContradiction
              intro hlt
              refine hn ⟨ht,fun _ v hv=>?_⟩
              exact Int.not_lt.1 fun hv0=>hlt (e2.2 ⟨v,hv,hv0⟩)
        · have e1:=hr2 ht
          rw [if_neg (by rw [e1];decide)]
          exact ⟨fun hh=>absurd hh.1 ht,fun _=>rfl⟩)
      (fun _=>by simp only [ZcV,h2];rfl),Zm3]
    congr 1
    refine YI ⟨fun hh=>⟨h2,fun t ht=>?_⟩,fun hh k t hk=>hh.2 t (List.mem_of_getElem? hk)⟩
    obtain ⟨k,hk⟩:=List.mem_iff_getElem?.1 ht
    exact hh k t hk
  · rw [if_neg (by omega),ZR (fun hh=>h2 hh.1)]
def ZfN (l:List YE):List (List UInt8):=l.map YE.Name
def Zpt (l:List YE):Nat:=l.countP (fun p=>YE.Clock p)
def Zum (n k:Nat) (p:YE):Prop:=(0≤YE.Cap p∧YE.Cap p≤500)∧(k+1=n→YE.Dir p=2∧YE.Cap p=0∧YE.Clock p=false)∧(k+1<n→YE.Dir p=1)
def ZlN (l:List YE):Prop:=2≤l.length∧l.length≤5∧Qd (ZfN l) l.length∧ZfU l (Zum l.length)
theorem Zrc (l:List YE) (h:sm (.sl ZdU) l):Zhu l=some (tr (ZlN l)):=by
  unfold Zhu
  have hs:=Zo h
  have:=Zhr (l:=l) (ρ:=Bool) (fun k=>((ZfN l).take k,(k:Int),())) (Zum l.length) (step:=fun v=>JF l v.1 v.2.1) (bad:=false) (good:=tr (2≤l.length∧l.length≤5∧Qd (ZfN l) l.length))
    (fun k p hx hk _=>by
      have hn:(ZfN l)[k]?=some (YE.Name p):=by simp [ZfN,hx]
      have e1:IntKind.i64.wrap ((l.length:Int)-1)=((l.length-1:Nat):Int):=by rw [Qc (by omega) (by omega)];omega
      simp only [JF,show (k:Int)<(l.length:Int) from by omega,if_true,Zt,hx,Option.bind_some,e1]
      rw [Zj (by simp only [List.length_take,List.length_singleton,ZfN,List.length_map];omega),Z6 hn,Qc (by omega) (by omega)]
      unfold Zum
      by_cases hlast:(k:Int)=((l.length-1:Nat):Int)
      · rw [if_pos hlast]
        have hk1:k+1=l.length:=by omega
        constructor
        · rintro ⟨_,h2,_⟩
          obtain ⟨a,b,c⟩:=h2 hk1
          rw [if_pos a,if_pos b,if_neg (by rw [c];simp)]
          rfl
        · intro hh
          split
          · split
            · split
              · rfl
              · rename_i a b c
                exact absurd ⟨by omega,fun _=>⟨a,b,by simpa using c⟩,fun h'=>by omega⟩ hh
            · rfl
          · rfl
      · rw [if_neg hlast,Vy]
        have hk1:k+1<l.length:=by omega
        simp only [Option.bind_some,within_iff]
        constructor
        · rintro ⟨h1,_,h3⟩
          rw [if_pos (h3 hk1),if_pos h1]
          rfl
        · intro hh
          split
          · split
            · rename_i a b
              exact absurd ⟨b,fun h'=>by omega,fun _=>a⟩ hh
            · rfl
          · rfl)
    (fun hA=>by
      have e0:(ZfN l).take l.length=ZfN l:=by rw [show l.length=(ZfN l).length by simp [ZfN],List.take_length]
      simp only [JF,Int.lt_irrefl,if_false,e0,Vy,Option.bind_some,show J3 l=some (l.length:Int) from rfl]
      have hlen:(ZfN l).length=l.length:=by simp [ZfN]
      by_cases hw:within (l.length:Int) 2 5=true
      · rw [if_pos hw,Vh _ (by rw [hlen];omega),Option.bind_some,hlen]
        rw [within_iff] at hw
        congr 2
        exact YI ⟨fun hh=>⟨by omega,by omega,hh⟩,fun hh=>hh.2.2⟩
      · rw [if_neg hw,ZR]
        intro hh
        exact hw ((within_iff _ _ _).2 (by omega)))
  refine (show Zv (fun v=>JF l v.1 v.2.1) (([]:List (List UInt8)),(0:Int),())=_ from this).trans ?_
  congr 1
  refine Ze5 ?_
  rw [Xa]
  by_cases hA:ZfU l (Zum l.length)
  · rw [YX hA,Xa]
    exact ⟨fun hh=>⟨hh.1,hh.2.1,hh.2.2,hA⟩,fun hh=>⟨hh.1,hh.2.1,hh.2.2.1⟩⟩
  · rw [YM hA]
    exact ⟨fun hh=>(by cases hh),fun hh=>absurd hh.2.2.2 hA⟩
end Go.Proofs.YtoefbkmllkpkkaaGreatDoor
/-
  Plain laws: pins by the reference; arcs.
-/
namespace Go.Proofs.YtoefbkmllkpkkaaGreatDoor
set_option linter.unusedVariables false
set_option linter.unusedSimpArgs false
open Go Go.Sx
theorem Zo1 {n:Nat} (h:n≤1048576) (h1:1≤n):IntKind.i64.wrap ((n:Int)-1)=((n-1:Nat):Int):=by rw [Qc (by omega) (by omega)];omega
theorem XK {n:Nat} (h:n≤1048576):IntKind.i64.wrap ((n:Int)+1)=((n+1:Nat):Int):=by rw [Qc (by omega) (by omega)];omega
theorem ZlL {l:List YE} {k:Nat} {s:List UInt8}:s ∉ (ZfN l).take k↔∀ (j:Nat) (q:YE),j<k→l[j]?=some q→YE.Name q≠s:=by
  constructor
  · intro h j q hj hq e
    refine h (List.mem_iff_getElem?.2 ⟨j,?_⟩)
    rw [List.getElem?_take,if_pos hj]
    simp [ZfN,hq,e]
  · intro h hm
    obtain ⟨j,hj⟩:=List.mem_iff_getElem?.1 hm
    rw [List.getElem?_take] at hj
    split at hj
    · rename_i hjk
      simp only [ZfN,List.getElem?_map,Option.map_eq_some_iff] at hj
      obtain ⟨q,hq,e⟩:=hj
      exact h j q hjk hq e
    · cases hj
theorem Zq8 (c:Zm) (h:sm (.sl ZdU) (Zm.YC c)):ZhB c=some (sel (ZlN (Zm.YC c)) ((Zpt (Zm.YC c):Int),true) ((0:Int),false)):=by
  unfold ZhB
  have hs:=Zo h
  by_cases h2:((Zm.YC c).length:Int)<2
  · rw [if_pos h2,YM (fun hh=>by have:=hh.1;omega)]
  by_cases h5:(5:Int)<((Zm.YC c).length:Int)
  · rw [if_neg h2,if_pos h5,YM (fun hh=>by have:=hh.2.1;omega)]
  rw [if_neg h2,if_neg h5]
  have e1:IntKind.i64.wrap (((Zm.YC c).length:Int)-1)=(((Zm.YC c).length-1:Nat):Int):=Zo1 hs (by omega)
  have:=Zhr (l:=Zm.YC c) (ρ:=Int×Bool) (fun k=>((((Zm.YC c).take k).countP (fun p=>YE.Clock p):Int),(k:Int),()))
    (fun k p=>(Jc (YE.Name p)=true∧∀ (j:Nat) (q:YE),j<k→(Zm.YC c)[j]?=some q→YE.Name q≠YE.Name p)∧Zum (Zm.YC c).length k p) (step:=fun v=>JK c v.1 v.2.1) (bad:=((0:Int),false)) (good:=((Zpt (Zm.YC c):Int),true))
    (fun k p hx hk _=>by
      have hcnt:((Zm.YC c).take k).countP (fun p=>YE.Clock p)≤5:=by
        have h1:=List.countP_le_length (p:=fun p=>YE.Clock p) (l:=(Zm.YC c).take k)
        rw [List.length_take] at h1;omega
      have hnext:((Zm.YC c).take (k+1)).countP (fun p=>YE.Clock p)=((Zm.YC c).take k).countP (fun p=>YE.Clock p)+if YE.Clock p=true then 1 else 0:=by
        rw [Z6 hx,List.countP_append];simp [List.countP_cons]
      have hname:(YE.Name p).length≤4611686018427387904:=ZgU (Jd h hx).1
      have rest:∀ (v:Int),Va c v (k:Int) p (k:Int)=sel (Jc (YE.Name p)=true∧Zum (Zm.YC c).length k p) (some (Sum.inr (Sum.inl (if YE.Clock p=true then IntKind.i64.wrap (v+1) else v,((k+1:Nat):Int),())))) (some (Sum.inr (Sum.inr (0,false)))):=by
        intro v
        simp only [Va,Int.lt_irrefl,if_false,Zaf _ hname,JC,Option.bind_some,e1,XK (show k≤1048576 by omega),within_iff]
        unfold Zum
        by_cases hn:Jc (YE.Name p)=true
        · by_cases hcap:0≤YE.Cap p∧YE.Cap p≤500
          · by_cases hlast:k+1=(Zm.YC c).length
            · have e2:(k:Int)=(((Zm.YC c).length-1:Nat):Int):=by omega
              have e3:¬((k:Int)<(((Zm.YC c).length-1:Nat):Int)):=by omega
              have e4:¬(k+1<(Zm.YC c).length):=by omega
              rw [if_pos hn,if_pos hcap,if_pos e2]
              by_cases a:YE.Dir p=2
              · by_cases b:YE.Cap p=0
                · by_cases d:YE.Clock p=true
                  · rw [if_pos a,if_pos b,if_pos d,YM]
                    rintro ⟨_,_,h',_⟩
                    have:=(h' hlast).2.2
                    rw [d] at this;cases this
                  · rw [if_pos a,if_pos b,if_neg d,if_neg e3,if_neg d,YX ⟨hn,hcap,fun _=>⟨a,b,by simpa using d⟩,fun h'=>absurd h' e4⟩]
                    simp [d]
                · rw [if_pos a,if_neg b,YM]
                  rintro ⟨_,_,h',_⟩
                  exact b (h' hlast).2.1
              · rw [if_neg a,YM]
                rintro ⟨_,_,h',_⟩
                exact a (h' hlast).1
            · have e2:¬(k:Int)=(((Zm.YC c).length-1:Nat):Int):=by omega
              have e3:(k:Int)<(((Zm.YC c).length-1:Nat):Int):=by omega
              have e4:k+1<(Zm.YC c).length:=by omega
              rw [if_pos hn,if_pos hcap,if_neg e2,if_pos e3]
              by_cases a:YE.Dir p=1
              · rw [if_pos a,YX ⟨hn,hcap,fun h'=>absurd h' hlast,fun _=>a⟩]
                by_cases d:YE.Clock p=true
                · rw [if_pos d,if_pos d]
                · rw [if_neg d,if_neg d]
              · rw [if_neg a,YM]
                rintro ⟨_,_,_,h'⟩
                exact a (h' e4)
          · rw [if_pos hn,if_neg hcap,YM (fun hh=>hcap hh.2.1)]
        · rw [if_neg hn,YM (fun hh=>hn hh.1)]
      have inner:∀ (v:Int) (good:(Int×Int×Unit) ⊕ (Int×Bool)),((∀ (j:Nat) (q:YE),j<k→(Zm.YC c)[j]?=some q→YE.Name q≠YE.Name p)→Va c v (k:Int) p (k:Int)=some (.inr good))→
          Zv (fun v'=>Va c v (k:Int) p v'.1) ((0:Int),())=some (sel (∀ j,j<k→∀ q,(Zm.YC c)[j]?=some q→YE.Name q≠YE.Name p) good (.inr (0,false))):=by
        intro v good hg
        refine ZqA k (by omega) (fun j=>∀ q,(Zm.YC c)[j]?=some q→YE.Name q≠YE.Name p) (fun j hj=>?_) (fun hh=>hg (fun j q hj hq=>hh j hj q hq))
        obtain ⟨q,hq⟩:∃ q,(Zm.YC c)[j]?=some q:=⟨_,List.getElem?_eq_getElem (by omega)⟩
        simp only [Va,show (j:Int)<(k:Int) from by omega,if_true,Zt,hq,Option.bind_some]
        refine ⟨fun hh=>by rw [if_neg (hh q rfl)],fun hh=>?_⟩
        rw [if_pos]
        apply Classical.byContradiction
        intro hne
        exact hh (fun q' hq'=>by injection hq' with hq';subst hq';exact hne)
      simp only [JK,show (k:Int)<((Zm.YC c).length:Int) from by omega,if_true,Zt,hx,Option.bind_some]
      constructor
      · rintro ⟨⟨a,b⟩,d⟩
        rw [inner _ (.inl (((((Zm.YC c).take (k+1)).countP (fun p=>YE.Clock p):Nat):Int),((k+1:Nat):Int),())) (fun _=>by
          rw [rest,YX ⟨a,d⟩,hnext]
          by_cases hc:YE.Clock p=true
          · rw [if_pos hc,if_pos hc,XK (by omega)]
          · rw [if_neg hc,if_neg hc];rfl),YX (fun j hj q hq=>b j q hj hq)]
      · intro hh
        rw [inner _ (.inr (0,false)) (fun hn=>by
          rw [rest,YM (fun h'=>hh ⟨⟨h'.1,hn⟩,h'.2⟩)])]
        by_cases hP:∀ j,j<k→∀ q,(Zm.YC c)[j]?=some q→YE.Name q≠YE.Name p
        · rw [YX hP]
        · rw [YM hP])
    (fun _=>by simp only [JK,Int.lt_irrefl,if_false,List.take_length];rfl)
  refine (show Zv (fun v=>JK c v.1 v.2.1) ((0:Int),(0:Int),())=_ from this).trans ?_
  congr 1
  have e:ZfU (Zm.YC c) (fun k p=>(Jc (YE.Name p)=true∧∀ (j:Nat) (q:YE),j<k→(Zm.YC c)[j]?=some q→YE.Name q≠YE.Name p)∧Zum (Zm.YC c).length k p)↔ZlN (Zm.YC c):=by
    constructor
    · intro hA
      refine ⟨by omega,by omega,fun j s hj hs'=>?_,fun k p hp=>(hA k p hp).2⟩
      simp only [ZfN,List.getElem?_map,Option.map_eq_some_iff] at hs'
      obtain ⟨q,hq,rfl⟩:=hs'
      exact ⟨(hA j q hq).1.1,ZlL.2 (hA j q hq).1.2⟩
    · intro hh k p hp
      have hk:=(List.getElem?_eq_some_iff.1 hp).1
      have hn:=hh.2.2.1 k (YE.Name p) hk (by simp [ZfN,hp])
      exact ⟨⟨hn.1,ZlL.1 hn.2⟩,hh.2.2.2 k p hp⟩
  rw [propext e]
end Go.Proofs.YtoefbkmllkpkkaaGreatDoor
/-
  Plain laws: arcs.
-/
namespace Go.Proofs.YtoefbkmllkpkkaaGreatDoor
set_option linter.unusedVariables false
set_option linter.unusedSimpArgs false
open Go Go.Sx
def Zsr (l:List YE) (i:Int):Bool:=match l[i.toNat]? with
  | some p=>YE.Clock p
  | none=>false
def Zog (c:Zm) (a:ZH):Prop :=
  (0≤ZH.From a∧ZH.From a≤((Zm.YC c).length:Int)-2)∧(0≤ZH.To a∧ZH.To a≤((Zm.YC c).length:Int)-1)∧
  ((ZH.Kind a=1∧Zsr (Zm.YC c) (ZH.From a)=false∧ZH.To a=((Zm.YC c).length:Int)-1∧(1≤ZH.Zcm a∧ZH.Zcm a≤3)∧ZfB (ZH.Delay a) true∧ZfB (ZH.ZdY a) true)∨
   ((ZH.Kind a=2∨ZH.Kind a=3)∧Zsr (Zm.YC c) (ZH.From a)=true∧ZH.To a=((Zm.YC c).length:Int)-1∧ZH.Zcm a=0∧ZfB (ZH.Delay a) true∧ZfB (ZH.ZdY a) true)∨
   ((ZH.Kind a=4∨ZH.Kind a=5)∧Zsr (Zm.YC c) (ZH.From a)=true∧ZH.To a<((Zm.YC c).length:Int)-1∧Zsr (Zm.YC c) (ZH.To a)=false∧ZH.Zcm a=0∧ZfB (ZH.Delay a) false∧(ZH.ZdY a).length=0))
theorem Zog.kind {c:Zm} {a:ZH} (h:Zog c a):1≤ZH.Kind a∧ZH.Kind a≤5:=by
  rcases h.2.2 with h | h | h
  · have:=h.1;omega
  · have:=h.1;omega
  · have:=h.1;omega
theorem ZCl {P Q:Prop} {m:Option Bool} (hm:m=some (tr Q)):(if tr P=true then m else some false)=some (tr (P∧Q)):=by
  by_cases h:P
  · rw [if_pos (Ye h),hm];congr 1;exact YI ⟨fun q=>⟨h,q⟩,fun q=>q.2⟩
  · rw [if_neg (by rw [ZR h];simp),ZR (fun q=>h q.1)]
theorem Yz {P Q:Prop} {_:Decidable P} {m:Option Bool} (hm:P→m=some (tr Q)):(if P then m else some false)=some (tr (P∧Q)):=by
  by_cases h:P
  · rw [if_pos h,hm h];congr 1;exact YI ⟨fun q=>⟨h,q⟩,fun q=>q.2⟩
  · rw [if_neg h,ZR (fun q=>h q.1)]
theorem Zg6 {P Q:Prop} {_:Decidable P} {m:Option Bool} (hm:¬P→m=some (tr Q)):(if P then some false else m)=some (tr (¬P∧Q)):=by
  by_cases h:P
  · rw [if_pos h,ZR (fun q=>q.1 h)]
  · rw [if_neg h,hm h];congr 1;exact YI ⟨fun q=>⟨h,q⟩,fun q=>q.2⟩
theorem JW {P:Prop} {b:Bool} (h:b=true↔P):some b=some (tr P):=by rw [Zm2 h]
theorem Vm {m:Option Bool} {P Q:Prop} (h:m=some (tr P)) (hpq:P↔Q):m=some (tr Q):=by rw [h,propext hpq]
theorem ZnP {Q:Prop} (h:¬Q):(some false:Option Bool)=some (tr Q):=by rw [ZR h]
theorem JO {P:Prop} {m:Option Bool} (h:m=some (tr P)):(m.bind fun b=>some b)=some (tr P):=by rw [h];rfl
theorem YF {P Q:Prop} {m m2:Option Bool} (h:m=some (tr P)) (h2:P→m2=some (tr Q)):(m.bind fun b=>if b=true then m2 else some false)=some (tr (P∧Q)):=by
  rw [h,Option.bind_some]
  by_cases hp:P
  · rw [if_pos (Ye hp),h2 hp];congr 1;exact YI ⟨fun q=>⟨hp,q⟩,fun q=>q.2⟩
  · rw [if_neg (by rw [ZR hp];simp),ZR (fun q=>hp q.1)]
theorem Zwa {P Q:Prop} {m m2:Option Bool} (h:m=some (tr P)) (h2:¬P→m2=some (tr Q)):(m.bind fun b=>if b=true then some false else m2)=some (tr (¬P∧Q)):=by
  rw [h,Option.bind_some]
  by_cases hp:P
  · rw [if_pos (Ye hp),ZR (fun q=>q.1 hp)]
  · rw [if_neg (by rw [ZR hp];simp),h2 hp];congr 1;exact YI ⟨fun q=>⟨hp,q⟩,fun q=>q.2⟩
theorem Ql (n a b:Int):ZE n a b=some (tr (a≤n∧n≤b)):=by rw [JC];exact JW (within_iff _ _ _)
theorem XD (n a b:Int):ZO n a b=some (tr (a≤n∧n≤b)):=by rw [Vy];exact JW (within_iff _ _ _)
theorem Zym {l:List YE} {i:Int} (h0:0≤i) (h1:i<l.length):∃ p,atI l i=some p∧Zsr l i=YE.Clock p:=by
  obtain ⟨p,h2,h3⟩:=Zsq h0 h1
  exact ⟨p,h2,by simp [Zsr,h3]⟩
theorem Zry (c:Zm) (a:ZH) (hp:sm (.sl ZdU) (Zm.YC c)) (hd:sm (.sl YZ) (ZH.Delay a)) (hw:sm (.sl YZ) (ZH.ZdY a)) (h2:2≤(Zm.YC c).length):Zja c a=some (tr (Zog c a)):=by
  unfold Zja
  have hs:=Zo hp
  have e1:IntKind.i64.wrap (((Zm.YC c).length:Int)-1)=((Zm.YC c).length:Int)-1:=Qc (by omega) (by omega)
  have e2:IntKind.i64.wrap (((Zm.YC c).length:Int)-1-1)=((Zm.YC c).length:Int)-2:=by rw [Qc (by omega) (by omega)];omega
  rw [e1,e2]
  refine Vm (YF (Ql _ _ _) (fun hF=>YF (Ql _ _ _) (fun hT=>?_))) (Q:=Zog c a) (P:=(0≤ZH.From a∧ZH.From a≤((Zm.YC c).length:Int)-2)∧(0≤ZH.To a∧ZH.To a≤((Zm.YC c).length:Int)-1)∧Zog c a) ⟨fun hh=>hh.2.2,fun hh=>⟨hh.1,hh.2.1,hh⟩⟩
  obtain ⟨p,hp1,hp2⟩:=Zym (l:=Zm.YC c) hF.1 (by omega)
  rw [hp1,Option.bind_some]
  have hdl:=ZiQ hd
  have hsl:=ZiQ hw
  have tt:∀ b,(YQ (ZH.Delay a) b).bind (fun x=>if x=true then (YQ (ZH.ZdY a) b).bind (fun y=>some y) else some false)=some (tr (ZfB (ZH.Delay a) b∧ZfB (ZH.ZdY a) b)):=fun b=>YF (ZeN _ _ hdl) (fun _=>JO (ZeN _ _ hsl))
  have tz:(YQ (ZH.Delay a) false).bind (fun x=>if x=true then some (Decidable.decide (((ZH.ZdY a).length:Int)=(0:Int))) else some false)=some (tr (ZfB (ZH.Delay a) false∧(ZH.ZdY a).length=0)):=YF (ZeN _ _ hdl) (fun _=>JW (by rw [decide_eq_true_eq];omega))
  unfold Zog
  rw [hp2]
  by_cases k1:ZH.Kind a=1
  · simp only [k1,if_true]
    refine Vm (Zg6 (fun hc=>Yz (fun hl=>YF (Ql _ _ _) (fun _=>tt true)))) ?_
    grind
  by_cases k2:ZH.Kind a=2
  · simp only [k2,if_true,Int.reduceEq,if_false]
    refine Vm (Yz (fun hc=>Yz (fun hl=>Yz (fun _=>tt true)))) ?_
    grind
  by_cases k3:ZH.Kind a=3
  · simp only [k3,if_true,Int.reduceEq,if_false]
    refine Vm (Yz (fun hc=>Yz (fun hl=>Yz (fun _=>tt true)))) ?_
    grind
  have chk:(if YE.Clock p=true then (if ZH.To a<((Zm.YC c).length:Int)-1 then (atI (Zm.YC c) (ZH.To a)).bind (fun x1=>if YE.Clock x1=true then some false else if ZH.Zcm a=0 then (YQ (ZH.Delay a) false).bind (fun x=>if x=true then some (Decidable.decide (((ZH.ZdY a).length:Int)=(0:Int))) else some false) else some false) else some false) else some false) =
      some (tr (YE.Clock p=true∧ZH.To a<((Zm.YC c).length:Int)-1∧Zsr (Zm.YC c) (ZH.To a)=false∧ZH.Zcm a=0∧ZfB (ZH.Delay a) false∧(ZH.ZdY a).length=0)):=by
    refine Yz (fun _=>Yz (fun hl=>?_))
    obtain ⟨q,hq1,hq2⟩:=Zym (l:=Zm.YC c) hT.1 (by omega)
    rw [hq1,Option.bind_some,hq2]
    refine Vm (Zg6 (fun _=>Yz (fun _=>tz))) ?_
    simp only [Bool.not_eq_true]
  by_cases k4:ZH.Kind a=4
  · simp only [k4,if_true,Int.reduceEq,if_false]
    refine Vm chk ?_
    grind
  by_cases k5:ZH.Kind a=5
  · simp only [k5,if_true,Int.reduceEq,if_false]
    refine Vm chk ?_
    grind
  · simp only [k1,k2,k3,k4,k5,if_false]
    refine ZnP ?_
    grind
def Zkc (l:List YE):Int:=ZbF (fun p=>YE.Clock p) l
theorem ZmY (c:Zm) (h:sm (.sl ZdU) (Zm.YC c)):Zd7 c=some (Zkc (Zm.YC c)):=by
  unfold Zd7
  rw [QE (YT h) (fun p=>YE.Clock p) (fun p _=>rfl),Option.bind_some]
  rfl
theorem ZdL (c:Zm) (h:sm (.sl ZdU) (Zm.YC c)):Za9 c=some (((Zm.YC c).length:Int)-1):=by
  have hs:=Zo h
  show some (IntKind.i64.wrap (((Zm.YC c).length:Int)-1))=_
  rw [Qc (by omega) (by omega)]
theorem Zf6 (c:Zm) (i:Int) (h:sm (.sl ZdU) (Zm.YC c)):Zah c i=some (tr (0≤i∧i≤((Zm.YC c).length:Int)-2)):=by
  have hs:=Zo h
  unfold Zah
  rw [ZdL c h,Option.bind_some,Qc (by omega) (by omega)]
  refine Vm (JO (XD _ _ _)) ?_
  omega
def Zy8 (c:Zm) (a:ZH):Prop :=
  ((ZH.Kind a=4∨ZH.Kind a=5)∧ZH.Zcm a=0∧(ZH.ZdY a).length=0∧ZfB (ZH.Delay a) false∧ZH.From a=Zkc (Zm.YC c)∧0≤ZH.From a∧(0≤ZH.To a∧ZH.To a≤((Zm.YC c).length:Int)-2)∧ZH.To a≠ZH.From a)∨
  (¬(ZH.Kind a=4∨ZH.Kind a=5)∧ZfB (ZH.Delay a) true∧ZfB (ZH.ZdY a) true∧ZH.To a=((Zm.YC c).length:Int)-1∧(0≤ZH.From a∧ZH.From a≤((Zm.YC c).length:Int)-2)∧
    ((ZH.Kind a=1∧Zsr (Zm.YC c) (ZH.From a)=false∧(1≤ZH.Zcm a∧ZH.Zcm a≤3))∨((ZH.Kind a=2∨ZH.Kind a=3)∧Zsr (Zm.YC c) (ZH.From a)=true∧ZH.Zcm a=0)))
theorem Zqv (k:Int):ZhA k=some (tr (k=4∨k=5)):=by
  unfold ZhA
  split
  · rename_i h;rw [Ye (.inl h)]
  · rename_i h
    exact JW (by rw [decide_eq_true_eq];omega)
theorem Zta (c:Zm) (a:ZH) (hp:sm (.sl ZdU) (Zm.YC c)) (hd:sm (.sl YZ) (ZH.Delay a)) (hw:sm (.sl YZ) (ZH.ZdY a)):Zen c a=some (tr (Zy8 c a)):=by
  unfold Zen
  have hdl:=ZiQ hd
  have hsl:=ZiQ hw
  rw [Zqv,Option.bind_some]
  by_cases hk:ZH.Kind a=4∨ZH.Kind a=5
  · rw [if_pos (Ye hk)]
    refine Vm (Yz (fun _=>Yz (fun _=>YF (Ze9 _ _ hdl) (fun _=>?_)))) (P:=ZH.Zcm a=0∧((ZH.ZdY a).length:Int)=0∧ZfB (ZH.Delay a) false∧(ZH.From a=Zkc (Zm.YC c)∧0≤ZH.From a∧(0≤ZH.To a∧ZH.To a≤((Zm.YC c).length:Int)-2)∧ZH.To a≠ZH.From a)) ?_
    · rw [ZmY c hp,Option.bind_some]
      refine Yz (fun _=>Yz (fun _=>YF (Zf6 c _ hp) (fun _=>JW ?_)))
      rw [Bool.not_eq_true',decide_eq_false_iff_not]
    · unfold Zy8
      constructor
      · rintro ⟨x1,x2,x3,x4⟩
        exact .inl ⟨hk,x1,by omega,x3,x4⟩
      · rintro (⟨_,x1,x2,x3,x4⟩ | ⟨x,_⟩)
        · exact ⟨x1,by omega,x3,x4⟩
        · exact absurd hk x
  · rw [if_neg (by rw [ZR hk];simp)]
    refine Vm (YF (Ze9 _ _ hdl) (fun _=>YF (Ze9 _ _ hsl) (fun _=>?_))) (P:=ZfB (ZH.Delay a) true∧ZfB (ZH.ZdY a) true∧(ZH.To a=((Zm.YC c).length:Int)-1∧(0≤ZH.From a∧ZH.From a≤((Zm.YC c).length:Int)-2)∧
      ((ZH.Kind a=1∧Zsr (Zm.YC c) (ZH.From a)=false∧(1≤ZH.Zcm a∧ZH.Zcm a≤3))∨((ZH.Kind a=2∨ZH.Kind a=3)∧Zsr (Zm.YC c) (ZH.From a)=true∧ZH.Zcm a=0)))) ?_
    · rw [ZdL c hp,Option.bind_some]
      refine Yz (fun _=>YF (Zf6 c _ hp) (fun hF=>?_))
      obtain ⟨p,hp1,hp2⟩:=Zym (l:=Zm.YC c) hF.1 (by omega)
      rw [hp1,hp2]
      simp only [Option.bind_some]
      by_cases k1:ZH.Kind a=1
      · simp only [k1,if_true]
        refine Vm (Zg6 (fun _=>JO (XD _ _ _))) ?_
        grind
      by_cases k2:ZH.Kind a=2
      · simp only [k2,if_true,Int.reduceEq,if_false]
        refine Vm (Yz (fun _=>JW (decide_eq_true_iff))) ?_
        grind
      by_cases k3:ZH.Kind a=3
      · simp only [k3,if_true,Int.reduceEq,if_false]
        refine Vm (Yz (fun _=>JW (decide_eq_true_iff))) ?_
        grind
      · simp only [k1,k2,k3,if_false]
        refine ZnP ?_
        grind
    · unfold Zy8
      constructor
      · intro x;exact .inr ⟨hk,x⟩
      · rintro (⟨x,_⟩ | ⟨_,x⟩)
        · exact absurd x hk
        · exact x
end Go.Proofs.YtoefbkmllkpkkaaGreatDoor
/-
  Plain laws: cells and libraries.
-/
namespace Go.Proofs.YtoefbkmllkpkkaaGreatDoor
set_option linter.unusedVariables false
set_option linter.unusedSimpArgs false
open Go Go.Sx
def ZgS (o a:ZH):Prop:=ZH.Kind o=ZH.Kind a∧ZH.From o=ZH.From a∧ZH.To o=ZH.To a
def Apart (l:List ZH) (k:Nat) (a:ZH):Prop:=∀ (j:Nat) (o:ZH),j<k→l[j]?=some o→¬ZgS o a
structure Zr7 (c:Zm):Prop where
  name:(Zm.Name c).length≤4611686018427387904
  pins:sm (.sl ZdU) (Zm.YC c)
  arcs:sm (.sl ZfF) (Zm.Zak c)
  truth:sm (.sl (.int .i64)) (Zm.Truth c)
theorem Zyw {c:Zm} (h:sm XY c):Zr7 c:=⟨ZgU h.1,h.2.2.1,h.2.2.2.1,h.2.2.2.2.1⟩
theorem Zz8 {a:ZH} (h:sm ZfF a):sm (.sl YZ) (ZH.Delay a)∧sm (.sl YZ) (ZH.ZdY a):=⟨h.2.2.2.2.1,h.2.2.2.2.2.1⟩
theorem Znf (o a:ZH):Qt o a=some (tr (ZgS o a)):=by
  unfold Qt ZgS
  exact Yz (fun _=>Yz (fun _=>JW decide_eq_true_iff))
theorem Zqs (c:Zm) (h:Zr7 c):Zcx c=some (tr ((Zm.Zak c).length≤8∧ZfU (Zm.Zak c) (fun k a=>Zy8 c a∧Apart (Zm.Zak c) k a))):=by
  unfold Zcx
  have hs:=Zo h.arcs
  rw [QA (YT h.arcs) (fun k a=>Zy8 c a∧Apart (Zm.Zak c) k a) (bad:=false) (good:=decide ((Zm.Zak c).length≤8))
    (fun k a hx hk _=>by
      obtain ⟨h1,h2⟩:=Zz8 (Jd h.arcs hx)
      simp only [ZaR,show (k:Int)<((Zm.Zak c).length:Int) from by omega,if_true,Zt,hx,Option.bind_some,Zta c a h.pins h1 h2]
      by_cases hA:Zy8 c a
      · rw [if_pos (Ye hA),Zj (by omega),Zj (by omega)]
        simp only [Int.toNat_natCast,Int.toNat_zero,List.drop_zero,Nat.sub_zero]
        rw [Qb (by show ((Zm.Zak c).take k).length≤4611686018427387904;rw [List.length_take];omega) (fun o=>tr (ZgS o a)) (fun o _=>Znf o a),Option.bind_some]
        have e:((Zm.Zak c).take k).any (fun o=>tr (ZgS o a))=true↔¬Apart (Zm.Zak c) k a:=by
          rw [List.any_eq_true]
          constructor
          · rintro ⟨o,ho,hs⟩ hap
            obtain ⟨j,hj⟩:=List.mem_iff_getElem?.1 ho
            rw [List.getElem?_take] at hj
            split at hj
            · rename_i hjk;exact hap j o hjk hj ((Xa _).1 hs)
            · cases hj
          · intro hn
            apply Classical.byContradiction
            intro hno
            refine hn (fun j o hj ho hs=>hno ⟨o,?_,Ye hs⟩)
            exact List.mem_iff_getElem?.2 ⟨j,by rw [List.getElem?_take,if_pos hj];exact ho⟩
        constructor
        · rintro ⟨_,hap⟩;rw [if_neg (fun hh=>e.1 hh hap)]
        · intro hn;rw [if_pos (e.2 (fun hap=>hn ⟨hA,hap⟩))]
      · rw [if_neg (by rw [ZR hA];simp)]
        exact ⟨fun hh=>absurd hh.1 hA,fun _=>rfl⟩)
    (fun _=>by
      simp only [ZaR,Int.lt_irrefl,if_false]
      congr 2
      rw [decide_eq_decide];omega)]
  congr 1
  refine Ze5 ?_
  rw [Xa]
  by_cases hA:ZfU (Zm.Zak c) (fun k a=>Zy8 c a∧Apart (Zm.Zak c) k a)
  · rw [YX hA,decide_eq_true_eq];exact ⟨fun h=>⟨h,hA⟩,fun h=>h.1⟩
  · rw [YM hA];exact ⟨fun h=>(by cases h),fun h=>absurd h.2 hA⟩
def ZtW (c:Zm) (k:Int):Prop:=∃ a∈Zm.Zak c,ZH.Kind a=k
theorem Ze3 (c:Zm) (k:Int) (h:Zr7 c):Vu c k=some (tr (ZtW c k)):=by
  unfold Vu
  rw [Qy (YT h.arcs) (fun a=>decide (ZH.Kind a=k)) (fun a _=>rfl),Option.bind_some]
  refine JW ?_
  rw [List.any_eq_true]
  simp only [decide_eq_true_eq,ZtW]
def ZhF (c:Zm):Prop :=
  (Zm.Kind c=1∧Zpt (Zm.YC c)=0∧(Zm.Truth c).length=2 ^ ((Zm.YC c).length-1)∧ZjE (Zm.Truth c) 0 1)∨
  (Zm.Kind c=2∧Zpt (Zm.YC c)=1∧(Zm.Truth c).length=0∧¬ZtW c 1∧(ZtW c 2↔¬ZtW c 3))∨
  (Zm.Kind c=3∧Zpt (Zm.YC c)=1∧(Zm.Truth c).length=0∧ZtW c 1∧ZtW c 2∧¬ZtW c 3)
theorem ZyA {n:Nat} (h:n≤4):(2:Nat) ^ n≤16:=by
  calc (2:Nat) ^ n≤2 ^ 4:=Nat.pow_le_pow_right (by omega) h
    _=16:=rfl
theorem ZCw {m:Nat} (h:m≤4):IntKind.i64.wrap ((1:Int)*(2:Int) ^ min m (IntKind.bits IntKind.i64))=((2 ^ m:Nat):Int):=by
  have hb:min m (IntKind.bits IntKind.i64)=m:=Nat.min_eq_left (by show m≤64;omega)
  have e:(1:Int)*(2:Int) ^ m=((2 ^ m:Nat):Int):=by simp
  rw [hb,e]
  have h16:=ZyA h
  clear hb e
  generalize 2 ^ m=g at h16 ⊢
  rw [Qc (by omega) (by omega)]
theorem ZpN (c:Zm) (h:Zr7 c) (hp:ZlN (Zm.YC c)):ZbM c=some (tr (ZhF c)):=by
  unfold ZbM
  have h2:=hp.1
  have h5:=hp.2.1
  refine (show Zv (fun v=>X6 c v.1 v.2.1) ((0:Int),(0:Int),())=_ from Yo (l:=Zm.YC c) (ρ:=Bool) (fun k=>((((Zm.YC c).take k).countP (fun p=>YE.Clock p):Int),(k:Int),())) (step:=fun v=>X6 c v.1 v.2.1)
    (fun k p hx hk=>by
      have hcnt:((Zm.YC c).take k).countP (fun p=>YE.Clock p)≤5:=by
        have h1:=List.countP_le_length (p:=fun p=>YE.Clock p) (l:=(Zm.YC c).take k)
        rw [List.length_take] at h1;omega
      have hnext:((Zm.YC c).take (k+1)).countP (fun p=>YE.Clock p)=((Zm.YC c).take k).countP (fun p=>YE.Clock p)+if YE.Clock p=true then 1 else 0:=by
        rw [Z6 hx,List.countP_append];simp [List.countP_cons]
      simp only [X6,show (k:Int)<((Zm.YC c).length:Int) from by omega,if_true,Zt,hx,Option.bind_some,hnext]
      by_cases hc:YE.Clock p=true
      · rw [if_pos hc,if_pos hc,XK (by omega),XK (by omega)]
      · rw [if_neg hc,if_neg hc,XK (by omega)];rfl)
    ?_)
  have hout:=ZdL c h.pins
  simp only [X6,Int.lt_irrefl,if_false,List.take_length,hout,Option.bind_some,show (((Zm.YC c).length:Int)-1).toNat=(Zm.YC c).length-1 from by omega,ZCw (show (Zm.YC c).length-1≤4 by omega)]
  have e00:((Zm.YC c).countP (fun p=>YE.Clock p):Int)=0↔Zpt (Zm.YC c)=0:=by unfold Zpt;omega
  have e01:((Zm.YC c).countP (fun p=>YE.Clock p):Int)=1↔Zpt (Zm.YC c)=1:=by unfold Zpt;omega
  unfold ZhF
  by_cases k1:Zm.Kind c=1
  · simp only [k1,if_true]
    by_cases hc:Zpt (Zm.YC c)=0
    · rw [if_pos (e00.2 hc),Zj (by omega)]
      by_cases ht:(Zm.Truth c).length=2 ^ ((Zm.YC c).length-1)
      · rw [if_pos (by rw [ht]),Zcq _ _ _ (YT h.truth),Option.bind_some]
        congr 2
        refine (Zm2 ?_).symm
        rw [Znd]
        exact ⟨fun hh=>.inl ⟨trivial,hc,ht,hh⟩,fun hh=>by grind⟩
      · rw [if_neg (by omega),ZR (by grind)]
    · rw [if_neg (fun hh=>hc (e00.1 hh)),ZR (by grind)]
  by_cases k2:Zm.Kind c=2
  · simp only [k2,if_true,Int.reduceEq,if_false]
    by_cases hc:Zpt (Zm.YC c)=1
    · rw [if_pos (e01.2 hc)]
      by_cases ht:(Zm.Truth c).length=0
      · rw [if_pos (by omega),Ze3 c 1 h,Option.bind_some]
        by_cases h1:ZtW c 1
        · rw [if_pos (Ye h1),ZR (by grind)]
        · rw [if_neg (by rw [ZR h1];simp),Ze3 c 2 h,Ze3 c 3 h]
          simp only [Option.bind_some]
          congr 2
          refine (Zm2 ?_).symm
          by_cases a:ZtW c 2<;>by_cases b:ZtW c 3<;>simp only [Ye,ZR,a,b,not_false_eq_true]<;>grind
      · rw [if_neg (by omega),ZR (by grind)]
    · rw [if_neg (fun hh=>hc (e01.1 hh)),ZR (by grind)]
  by_cases k3:Zm.Kind c=3
  · simp only [k3,if_true,Int.reduceEq,if_false]
    by_cases hc:Zpt (Zm.YC c)=1
    · rw [if_pos (e01.2 hc)]
      by_cases ht:(Zm.Truth c).length=0
      · rw [if_pos (by omega),Ze3 c 1 h,Option.bind_some]
        by_cases h1:ZtW c 1
        · rw [if_pos (Ye h1),Ze3 c 2 h,Option.bind_some]
          by_cases h2:ZtW c 2
          · rw [if_pos (Ye h2),Ze3 c 3 h,Option.bind_some]
            congr 2
            refine (Zm2 ?_).symm
            rw [Bool.not_eq_true',←Bool.not_eq_true,Xa]
            grind
          · rw [if_neg (by rw [ZR h2];simp),ZR (by grind)]
        · rw [if_neg (by rw [ZR h1];simp),ZR (by grind)]
      · rw [if_neg (by omega),ZR (by grind)]
    · rw [if_neg (fun hh=>hc (e01.1 hh)),ZR (by grind)]
  · simp only [k1,k2,k3,if_false]
    rw [ZR (by grind)]
def ZCv (c:Zm):Prop:=Jc (Zm.Name c)=true∧ZlN (Zm.YC c)∧((Zm.Zak c).length≤8∧ZfU (Zm.Zak c) (fun k a=>Zy8 c a∧Apart (Zm.Zak c) k a))∧(0≤Zm.Zy7 c∧Zm.Zy7 c≤100000)∧(0≤Zm.Zlx c∧Zm.Zlx c≤100000)∧ZhF c
def ZmT (c:Zm):Prop:=Jc (Zm.Name c)=true∧ZlN (Zm.YC c)∧((Zm.Zak c).length≤8∧ZfU (Zm.Zak c) (fun k a=>Zog c a∧Apart (Zm.Zak c) k a))∧(0≤Zm.Zy7 c∧Zm.Zy7 c≤100000)∧(0≤Zm.Zlx c∧Zm.Zlx c≤100000)∧ZhF c
theorem Zwr {l:List YE} {i j:Nat} {p q:YE} (hij:i<j) (hp:l[i]?=some p) (hq:l[j]?=some q) (cp:YE.Clock p=true) (cq:YE.Clock q=true):2≤Zpt l:=by
  unfold Zpt
  have e:l.countP (fun p=>YE.Clock p)=(l.take j).countP (fun p=>YE.Clock p)+(l.drop j).countP (fun p=>YE.Clock p):=by rw [←List.countP_append,List.take_append_drop]
  have h1:0<(l.take j).countP (fun p=>YE.Clock p):=List.countP_pos_iff.2 ⟨p,List.mem_iff_getElem?.2 ⟨i,by rw [List.getElem?_take,if_pos hij];exact hp⟩,cp⟩
  have h2:0<(l.drop j).countP (fun p=>YE.Clock p):=List.countP_pos_iff.2 ⟨q,List.mem_iff_getElem?.2 ⟨0,by rw [List.getElem?_drop];exact hq⟩,cq⟩
  omega
theorem Zsc {l:List YE} (h:Zpt l≤1) {i:Int} (h0:0≤i):Zsr l i=true↔i=Zkc l:=by
  unfold Zkc ZbF Zsr
  constructor
  · intro hc
    split at hc
    · rename_i p hp
      split
      · rename_i j hj
        obtain ⟨hj1,hj2,hj3⟩:=List.findIdx?_eq_some_iff_getElem.1 hj
        have hjg:l[j]?=some l[j]:=List.getElem?_eq_getElem hj1
        rcases Nat.lt_trichotomy i.toNat j with hlt | heq | hlt
        · have:=Zwr hlt hp hjg hc hj2;omega
        · omega
        · have:=Zwr hlt hjg hp hj2 hc;omega
      · rename_i hn
        rw [List.findIdx?_eq_none_iff] at hn
        have:=hn p (List.mem_of_getElem? hp)
        rw [hc] at this;cases this
    · cases hc
  · intro hi
    split at hi
    · rename_i j hj
      obtain ⟨hj1,hj2,hj3⟩:=List.findIdx?_eq_some_iff_getElem.1 hj
      subst hi
      rw [Int.toNat_natCast,List.getElem?_eq_getElem hj1]
      exact hj2
    · omega
theorem ZwE {l:List YE} (h:ZlN l):Zsr l ((l.length:Int)-1)=false:=by
  have h2:=h.1
  have hp:l[l.length-1]?=some l[l.length-1]:=List.getElem?_eq_getElem (by omega)
  have:=((h.2.2.2 _ _ hp).2.1 (by omega)).2.2
  unfold Zsr
  rw [show ((l.length:Int)-1).toNat=l.length-1 by omega,hp]
  exact this
theorem Zx3 {c:Zm} (hp:ZlN (Zm.YC c)) (hk:Zpt (Zm.YC c)≤1) (a:ZH):Zy8 c a↔Zog c a:=by
  have h2:=hp.1
  have hF:0≤ZH.From a→(Zsr (Zm.YC c) (ZH.From a)=true↔ZH.From a=Zkc (Zm.YC c)):=fun h=>Zsc hk h
  have hT:0≤ZH.To a→(Zsr (Zm.YC c) (ZH.To a)=true↔ZH.To a=Zkc (Zm.YC c)):=fun h=>Zsc hk h
  have hlast:=ZwE hp
  have hfr:∀ i,Zsr (Zm.YC c) i=true→i<((Zm.YC c).length:Int):=by
    intro i hi
    unfold Zsr at hi
    split at hi
    · rename_i p hp'
      have:=(List.getElem?_eq_some_iff.1 hp').1
      omega
    · cases hi
  unfold Zy8 Zog
  generalize Zkc (Zm.YC c)=ck at *
  constructor
  · rintro (⟨k,s,sl,td,fc,f0,⟨t0,t1⟩,ne⟩ | ⟨k,td,ts,te,⟨f0,f1⟩,hh⟩)
    · have hclk:=(hF f0).2 fc
      have hnl:ZH.From a≠((Zm.YC c).length:Int)-1:=fun e=>by rw [e,hlast] at hclk;cases hclk
      have:=hfr _ hclk
      refine ⟨⟨f0,by omega⟩,⟨t0,by omega⟩,.inr (.inr ⟨k,hclk,by omega,?_,s,td,sl⟩)⟩
      rw [←Bool.not_eq_true]
      intro hc
      exact ne (((hT t0).1 hc).trans fc.symm)
    · refine ⟨⟨f0,f1⟩,⟨by omega,by omega⟩,?_⟩
      rcases hh with ⟨k1,c1,s1⟩ | ⟨k1,c1,s1⟩
      · exact .inl ⟨k1,c1,te,s1,td,ts⟩
      · exact .inr (.inl ⟨k1,c1,te,s1,td,ts⟩)
  · rintro ⟨⟨f0,f1⟩,⟨t0,t1⟩,(⟨k,c1,te,s,td,ts⟩ | ⟨k,c1,te,s,td,ts⟩ | ⟨k,c1,tl,c2,s,td,sl⟩)⟩
    · exact .inr ⟨by omega,td,ts,te,⟨f0,f1⟩,.inl ⟨k,c1,s⟩⟩
    · exact .inr ⟨by omega,td,ts,te,⟨f0,f1⟩,.inr ⟨k,c1,s⟩⟩
    · refine .inl ⟨k,s,sl,td,(hF f0).1 c1,f0,⟨t0,by omega⟩,fun e=>?_⟩
      rw [e,c1] at c2;cases c2
theorem ZhF.Zpt {c:Zm} (h:ZhF c):Zpt (Zm.YC c)≤1:=by
  rcases h with h | h | h
  · have:=h.2.1;omega
  · have:=h.2.1;omega
  · have:=h.2.1;omega
theorem ZAJ (c:Zm):ZCv c↔ZmT c:=by
  unfold ZCv ZmT
  constructor
  · rintro ⟨a,b,⟨c1,d⟩,e,f,g⟩
    exact ⟨a,b,⟨c1,fun k x hx=>⟨(Zx3 b g.Zpt x).1 (d k x hx).1,(d k x hx).2⟩⟩,e,f,g⟩
  · rintro ⟨a,b,⟨c1,d⟩,e,f,g⟩
    exact ⟨a,b,⟨c1,fun k x hx=>⟨(Zx3 b g.Zpt x).2 (d k x hx).1,(d k x hx).2⟩⟩,e,f,g⟩
theorem ZrB (c:Zm) (h:sm XY c):Zi7 c=some (tr (ZmT c)):=by
  have hc:=Zyw h
  unfold Zi7
  refine Vm (YF (by rw [Zfd];exact JW Iff.rfl) (fun _=>YF (Zrc _ hc.pins) (fun hp=>YF (Zqs c hc) (fun _=>YF (XD _ _ _) (fun _=>YF (XD _ _ _) (fun _=>JO (ZpN c hc hp))))))) ?_
  exact (ZAJ c)
end Go.Proofs.YtoefbkmllkpkkaaGreatDoor
/-
  Plain laws: cells by the reference; libraries.
-/
namespace Go.Proofs.YtoefbkmllkpkkaaGreatDoor
set_option linter.unusedVariables false
set_option linter.unusedSimpArgs false
open Go Go.Sx
def Zf0 (l:List ZH):List Int:=(List.range 6).map (fun (j:Nat)=>((l.countP (fun a=>decide (ZH.Kind a=(j:Int))):Nat):Int))
theorem ZdJ (l:List ZH) {j:Nat} (h:j<6):(Zf0 l)[j]?=some ((l.countP (fun a=>decide (ZH.Kind a=(j:Int))):Nat):Int):=by
  simp [Zf0,List.getElem?_range h]
theorem ZpS (c:Zm) (h:Zr7 c) (hk:∀ a∈Zm.Zak c,1≤ZH.Kind a∧ZH.Kind a≤5):Zgf c=some (Zf0 (Zm.Zak c)):=by
  unfold Zgf
  have hs:=Zo h.arcs
  have h0:List.replicate (Int.toNat (6:Int)) (0:Int)=Zf0 ((Zm.Zak c).take 0):=by simp [Zf0];decide
  rw [h0]
  refine Yo (l:=Zm.Zak c) (ρ:=List Int) (fun k=>((k:Int),Zf0 ((Zm.Zak c).take k),())) (step:=fun v=>ZaY c v.1 v.2.1)
    (fun k a hx hlt=>?_) (by simp only [ZaY,Int.lt_irrefl,if_false,List.take_length])
  obtain ⟨k1,k5⟩:=hk a (List.mem_of_getElem? hx)
  have hkn:ZH.Kind a=(((ZH.Kind a).toNat:Nat):Int):=by omega
  have hcnt:∀ j:Nat,((Zm.Zak c).take k).countP (fun a=>decide (ZH.Kind a=(j:Int)))≤1048576:=by
    intro j
    have h1:=List.countP_le_length (p:=fun a=>decide (ZH.Kind a=(j:Int))) (l:=(Zm.Zak c).take k)
    rw [List.length_take] at h1;omega
  simp only [ZaY,show (k:Int)<((Zm.Zak c).length:Int) from by omega,if_true,Zt,hx,Option.bind_some]
  rw [Qa (by omega) (ZdJ _ (show (ZH.Kind a).toNat<6 by omega)),Option.bind_some,XK (hcnt _),XK (by omega)]
  congr 3
  rw [Prod.mk.injEq]
  refine ⟨?_,rfl⟩
  apply List.ext_getElem?
  intro j
  by_cases hj:(ZH.Kind a).toNat=j
  · subst hj
    rw [List.getElem?_set_self (by simp [Zf0];omega),ZdJ _ (by omega),Z6 hx,List.countP_append]
    congr 2
    rw [List.countP_cons,List.countP_nil]
    simp [←hkn]
  · rw [List.getElem?_set_ne hj]
    by_cases h6:j<6
    · rw [ZdJ _ h6,ZdJ _ h6,Z6 hx,List.countP_append]
      congr 2
      rw [List.countP_cons,List.countP_nil]
      have:¬ZH.Kind a=(j:Int):=by omega
      simp [this]
    · rw [List.getElem?_eq_none (by simp [Zf0];omega),List.getElem?_eq_none (by simp [Zf0];omega)]
theorem ZqS (c:Zm) (j:Nat):0<(Zm.Zak c).countP (fun a=>decide (ZH.Kind a=(j:Int)))↔ZtW c j:=by
  rw [List.countP_pos_iff]
  simp only [decide_eq_true_eq,ZtW]
theorem ZnQ (c:Zm) (h:Zr7 c) (hp:ZlN (Zm.YC c)) (hk1:Zm.Kind c=1) :
    Zv (fun v=>Zci c ((Zpt (Zm.YC c):Int),true) v.1) ((0:Int),())=some (.inr (tr (ZhF c))):=by
  have h2:=hp.1
  have h5:=hp.2.1
  have hs:=Zo h.truth
  have e1:IntKind.i64.wrap (((Zm.YC c).length:Int)-1)=((Zm.YC c).length:Int)-1:=Qc (by omega) (by omega)
  have e2:IntKind.u64.wrap (((Zm.YC c).length:Int)-1)=((Zm.YC c).length:Int)-1:=IntWalk.u64_in _ (by omega)
  rw [QA (YT h.truth) (fun k x=>0≤x∧x≤1) (bad:=.inr false) (good:=.inr (tr (Zpt (Zm.YC c)=0∧(Zm.Truth c).length=2 ^ ((Zm.YC c).length-1))))
    (fun k x hx hk _=>by
      simp only [Zci,show (k:Int)<((Zm.Truth c).length:Int) from by omega,if_true,Zt,hx,Option.bind_some,JC,within_iff]
      exact ⟨fun hh=>by rw [if_pos hh],fun hh=>by rw [if_neg hh]⟩)
    (fun _=>by
      simp only [Zci,Int.lt_irrefl,if_false,e1,e2]
      by_cases hc:Zpt (Zm.YC c)=0
      · rw [if_pos (by omega),Zj (by omega),show (((Zm.YC c).length:Int)-1).toNat=(Zm.YC c).length-1 by omega,ZCw (by omega)]
        congr 2
        congr 1
        refine (Zm2 ?_).symm
        rw [decide_eq_true_eq]
        constructor
        · intro hh;exact ⟨hc,by omega⟩
        · intro hh;rw [hh.2]
      · rw [if_neg (by omega),ZR (fun hh=>hc hh.1)])]
  congr 1
  by_cases hA:ZfU (Zm.Truth c) (fun k x=>0≤x∧x≤1)
  · rw [YX hA]
    congr 1
    refine YI ?_
    have hAll:ZjE (Zm.Truth c) 0 1:=fun x hx=>by
      obtain ⟨k,hk⟩:=List.mem_iff_getElem?.1 hx
      exact hA k x hk
    unfold ZhF
    grind
  · rw [YM hA,ZR]
    intro hh
    rcases hh with hh | hh | hh
    · exact hA (fun k x hk=>hh.2.2.2 x (List.mem_of_getElem? hk))
    · have:=hh.1;omega
    · have:=hh.1;omega
theorem ZrI (c:Zm) (hsm:sm XY c):Zjo c=some (tr (ZmT c)):=by
  have h:=Zyw hsm
  have hs:=Zo h.arcs
  unfold Zjo
  rw [Zq8 c h.pins,Option.bind_some]
  by_cases hp':¬ZlN (Zm.YC c)
  · rw [YM hp',ZR (fun hh=>hp' hh.2.1)];rfl
  have hp:=Classical.not_not.1 hp'
  rw [YX hp]
  simp only [if_true]
  refine Vm (YF (P:=Jc (Zm.Name c)=true) (by rw [Zaf _ h.name];exact JW Iff.rfl) (fun hn=>Zg6 (fun h8=>YF (Ql _ _ _) (fun hl=>YF (Ql _ _ _) (fun he=>?_))))) (P:=Jc (Zm.Name c)=true∧¬((8:Int)<((Zm.Zak c).length:Int))∧(0≤Zm.Zy7 c∧Zm.Zy7 c≤100000)∧(0≤Zm.Zlx c∧Zm.Zlx c≤100000)∧(ZfU (Zm.Zak c) (fun k a=>Zog c a∧Apart (Zm.Zak c) k a)∧ZhF c)) ?_
  · rw [QA (YT h.arcs) (fun k a=>Zog c a∧Apart (Zm.Zak c) k a) (bad:=false) (good:=tr (ZhF c))
      (fun k a hx hk _=>by
        obtain ⟨h1,h2⟩:=Zz8 (Jd h.arcs hx)
        simp only [Ze7,show (k:Int)<((Zm.Zak c).length:Int) from by omega,if_true,Zt,hx,Option.bind_some,Zry c a h.pins h1 h2 hp.1]
        have inner:Zv (fun v=>Zco c (k:Int) a v.1) ((0:Int),())=some (sel (∀ j,j<k→∀ o,(Zm.Zak c)[j]?=some o→¬ZgS o a) (.inl (IntKind.i64.wrap ((k:Int)+1),())) (.inr false)):=by
          refine ZqA k (by omega) (fun j=>∀ o,(Zm.Zak c)[j]?=some o→¬ZgS o a) (fun j hj=>?_) (fun _=>by simp only [Zco,Int.lt_irrefl,if_false])
          obtain ⟨o,ho⟩:∃ o,(Zm.Zak c)[j]?=some o:=⟨_,List.getElem?_eq_getElem (by omega)⟩
          simp only [Zco,show (j:Int)<(k:Int) from by omega,if_true,Zt,ho,Option.bind_some]
          have e:(∀ o',some o=some o'→¬ZgS o' a)↔¬ZgS o a:=⟨fun hh=>hh o rfl,fun hh o' ho'=>by injection ho' with ho';subst ho';exact hh⟩
          rw [e]
          unfold ZgS
          constructor
          · intro hh
            split
            · split
              · split
                · exact absurd ⟨‹_›,‹_›,‹_›⟩ hh
                · rfl
              · rfl
            · rfl
          · intro hh
            have hh:=Classical.not_not.1 hh
            rw [if_pos hh.1,if_pos hh.2.1,if_pos hh.2.2]
        have eap:Apart (Zm.Zak c) k a↔(∀ j,j<k→∀ o,(Zm.Zak c)[j]?=some o→¬ZgS o a):=⟨fun hh j hj o ho=>hh j o hj ho,fun hh j o hj ho=>hh j hj o ho⟩
        by_cases hA:Zog c a
        · rw [if_pos (Ye hA),inner]
          constructor
          · intro hh;rw [YX (eap.1 hh.2)]
          · intro hh;rw [YM (fun h'=>hh ⟨hA,eap.2 h'⟩)]
        · rw [if_neg (by rw [ZR hA];simp)]
          exact ⟨fun hh=>absurd hh.1 hA,fun _=>rfl⟩)
      (fun hA=>by
        have hkinds:=ZpS c h (fun a ha=>by
          obtain ⟨k,hk⟩:=List.mem_iff_getElem?.1 ha
          exact (hA k a hk).1.kind)
        have g1:atI (Zf0 (Zm.Zak c)) (1:Int)=some (((Zm.Zak c).countP (fun a=>decide (ZH.Kind a=((1:Nat):Int))):Nat):Int):=Qa (by omega) (ZdJ _ (by omega))
        have g2:atI (Zf0 (Zm.Zak c)) (2:Int)=some (((Zm.Zak c).countP (fun a=>decide (ZH.Kind a=((2:Nat):Int))):Nat):Int):=Qa (by omega) (ZdJ _ (by omega))
        have g3:atI (Zf0 (Zm.Zak c)) (3:Int)=some (((Zm.Zak c).countP (fun a=>decide (ZH.Kind a=((3:Nat):Int))):Nat):Int):=Qa (by omega) (ZdJ _ (by omega))
        have c1:=ZqS c 1
        have c2:=ZqS c 2
        have c3:=ZqS c 3
        simp only [Ze7,Int.lt_irrefl,if_false,hkinds,Option.bind_some,g1,g2,g3]
        generalize (Zm.Zak c).countP (fun a=>decide (ZH.Kind a=((1:Nat):Int)))=n1 at c1 ⊢
        generalize (Zm.Zak c).countP (fun a=>decide (ZH.Kind a=((2:Nat):Int)))=n2 at c2 ⊢
        generalize (Zm.Zak c).countP (fun a=>decide (ZH.Kind a=((3:Nat):Int)))=n3 at c3 ⊢
        by_cases k1:Zm.Kind c=1
        · rw [if_pos k1]
          exact ZnQ c h hp k1
        rw [if_neg k1]
        have hgoal:∀ (b:Bool),(b=true↔ZhF c)→(some (.inr b):Option ((Int×Unit) ⊕ Bool))=some (.inr (tr (ZhF c))):=fun b hb=>by rw [Zm2 hb]
        have c1':ZtW c 1↔0<n1:=c1.symm
        have c2':ZtW c 2↔0<n2:=c2.symm
        have c3':ZtW c 3↔0<n3:=c3.symm
        have hKO:ZhF c↔(Zm.Kind c=2∧Zpt (Zm.YC c)=1∧(Zm.Truth c).length=0∧¬0<n1∧(0<n2↔¬0<n3))∨(Zm.Kind c=3∧Zpt (Zm.YC c)=1∧(Zm.Truth c).length=0∧0<n1∧0<n2∧¬0<n3):=by
          unfold ZhF
          rw [c1',c2',c3']
          constructor
          · rintro (hh | hh | hh)
            · exact absurd hh.1 k1
            · exact .inl hh
            · exact .inr hh
          · rintro (hh | hh)
            · exact .inr (.inl hh)
            · exact .inr (.inr hh)
        by_cases k2:Zm.Kind c=2
        · rw [if_pos k2]
          split
          · split
            · split
              · rename_i a b d
                refine hgoal _ ?_
                rw [hKO]
                simp only [beq_iff_eq,decide_eq_decide] at d
                constructor
                · intro hh;cases hh
                · intro hh;omega
              · rename_i a b d
                refine hgoal _ ?_
                rw [hKO,decide_eq_true_eq]
                simp only [beq_iff_eq,decide_eq_decide] at d
                omega
            · refine hgoal _ ?_
              rw [hKO]
              constructor
              · intro hh;cases hh
              · intro hh;omega
          · refine hgoal _ ?_
            rw [hKO]
            constructor
            · intro hh;cases hh
            · intro hh;omega
        rw [if_neg k2]
        repeat' split
        all_goals
          refine hgoal _ ?_
          rw [hKO]
          first
            | (rw [decide_eq_true_eq];omega)
            | (constructor
               · intro hh;cases hh
               · intro hh;omega))]
    congr 1
    by_cases hA:ZfU (Zm.Zak c) (fun k a=>Zog c a∧Apart (Zm.Zak c) k a)
    · rw [YX hA];exact YI ⟨fun x=>⟨hA,x⟩,fun x=>x.2⟩
    · rw [YM hA,ZR (fun x=>hA x.1)]
  · unfold ZmT
    constructor
    · rintro ⟨a,b,c1,d,e,f⟩
      exact ⟨a,hp,⟨by omega,e⟩,c1,d,f⟩
    · rintro ⟨a,b,⟨c1,d⟩,e,f,g⟩
      exact ⟨a,by omega,e,f,d,g⟩
end Go.Proofs.YtoefbkmllkpkkaaGreatDoor
/-
  Plain laws: libraries; names of a design.
-/
namespace Go.Proofs.YtoefbkmllkpkkaaGreatDoor
set_option linter.unusedVariables false
set_option linter.unusedSimpArgs false
open Go Go.Sx
theorem Zwq {α:Type} {l:List α} {k:Nat} {s:α}:s ∉ l.take k↔∀ (j:Nat) (q:α),j<k→l[j]?=some q→q≠s:=by
  constructor
  · intro h j q hj hq e
    refine h (List.mem_iff_getElem?.2 ⟨j,?_⟩)
    rw [List.getElem?_take,if_pos hj,hq,e]
  · intro h hm
    obtain ⟨j,hj⟩:=List.mem_iff_getElem?.1 hm
    rw [List.getElem?_take] at hj
    split at hj
    · rename_i hjk;exact h j s hjk hj rfl
    · cases hj
theorem Zqu {α:Type} (f:α→List UInt8) (l:List α):Qd (l.map f) l.length↔ZfU l (fun k x=>Jc (f x)=true∧∀ (j:Nat) (q:α),j<k→l[j]?=some q→f q≠f x):=by
  constructor
  · intro h k x hx
    have hk:=(List.getElem?_eq_some_iff.1 hx).1
    obtain ⟨h1,h2⟩:=h k (f x) hk (by simp [hx])
    refine ⟨h1,fun j q hj hq=>Zwq.1 h2 j (f q) hj (by simp [hq])⟩
  · intro h j s hj hs
    simp only [List.getElem?_map,Option.map_eq_some_iff] at hs
    obtain ⟨x,hx,rfl⟩:=hs
    obtain ⟨h1,h2⟩:=h j x hx
    refine ⟨h1,Zwq.2 (fun i q hi hq=>?_)⟩
    simp only [List.getElem?_map,Option.map_eq_some_iff] at hq
    obtain ⟨y,hy,rfl⟩:=hq
    exact h2 i y hi hy
def Zit (l:List Zm):List (List UInt8):=l.map Zm.Name
def Zvu (a:Zp):Prop:=(Zp.Cells a).length≤8∧(∀ c∈Zp.Cells a,ZmT c)∧Qd (Zit (Zp.Cells a)) (Zp.Cells a).length
theorem ZrA {a:Zp} (h:sm YN a):sm (.sl XY) (Zp.Cells a):=h.1
theorem JB {α:Type} {l:List α} {P:α→Prop}:ZfU l (fun _ x=>P x)↔∀ x∈l,P x:=by
  constructor
  · intro h x hx
    obtain ⟨k,hk⟩:=List.mem_iff_getElem?.1 hx
    exact h k x hk
  · intro h k x hk
    exact h x (List.mem_of_getElem? hk)
theorem Zeu {P Q:Prop}:sel P (tr Q) false=tr (P∧Q):=by
  by_cases h:P
  · rw [YX h];exact YI ⟨fun q=>⟨h,q⟩,fun q=>q.2⟩
  · rw [YM h,ZR (fun q=>h q.1)]
theorem Zot (a:Zp) (h:sm YN a):Zfo a=some (tr (Zvu a)):=by
  have hc:=ZrA h
  have hs:=Zo hc
  unfold Zfo
  have:=Zhr (l:=Zp.Cells a) (ρ:=Bool) (fun k=>((Zit (Zp.Cells a)).take k,(k:Int),())) (fun _ c=>ZmT c) (step:=fun v=>Vq a v.1 v.2.1) (bad:=false) (good:=tr ((Zp.Cells a).length≤8∧Qd (Zit (Zp.Cells a)) (Zp.Cells a).length))
    (fun k c hx hk _=>by
      have hn:(Zit (Zp.Cells a))[k]?=some (Zm.Name c):=by simp [Zit,hx]
      simp only [Vq,show (k:Int)<((Zp.Cells a).length:Int) from by omega,if_true,Zt,hx,Option.bind_some,ZrB c (Jd hc hx)]
      rw [Zj (by simp only [List.length_take,List.length_singleton,Zit,List.length_map];omega),Z6 hn,XK (by omega)]
      constructor
      · intro hh;rw [if_pos (Ye hh)]
      · intro hh;rw [if_neg (by rw [ZR hh];simp)])
    (fun hA=>by
      have e0:(Zit (Zp.Cells a)).take (Zp.Cells a).length=Zit (Zp.Cells a):=by rw [show (Zp.Cells a).length=(Zit (Zp.Cells a)).length by simp [Zit],List.take_length]
      have hlen:(Zit (Zp.Cells a)).length=(Zp.Cells a).length:=by simp [Zit]
      simp only [Vq,Int.lt_irrefl,if_false,e0]
      by_cases h8:(Zp.Cells a).length≤8
      · rw [if_pos (by omega),Vh _ (by rw [hlen];omega),Option.bind_some,hlen]
        congr 2
        exact YI ⟨fun q=>⟨h8,q⟩,fun q=>q.2⟩
      · rw [if_neg (by omega),ZR (fun q=>h8 q.1)])
  refine (show Zv (fun v=>Vq a v.1 v.2.1) (([]:List (List UInt8)),(0:Int),())=_ from this).trans ?_
  rw [Zeu]
  congr 1
  refine YI ?_
  rw [JB]
  exact ⟨fun q=>⟨q.2.1,q.1,q.2.2⟩,fun q=>⟨q.2.1,q.1,q.2.2⟩⟩
theorem Zml {α ρ:Type} {f:α→List UInt8} {l:List α} {x:α} {k:Nat} (hk:k≤1048576) (hkl:k≤l.length) {step:Int×Unit→Option ((Int×Unit) ⊕ ρ)} {bad good:ρ}
    (hs:∀ (j:Nat) (y:α),j<k→l[j]?=some y→step ((j:Int),())=some (if f y=f x then .inr bad else .inl (IntKind.i64.wrap ((j:Int)+1),())))
    (hx:step ((k:Int),())=some (.inr good)):Zv step ((0:Int),())=some (sel (∀ (j:Nat) (q:α),j<k→l[j]?=some q→f q≠f x) good bad):=by
  rw [ZqA k (by omega) (fun j=>∀ q,l[j]?=some q→f q≠f x) (bad:=bad) (good:=good) (fun j hj=>by
    have hjl:l[j]?=some l[j]:=List.getElem?_eq_getElem (by omega)
    rw [hs j _ hj hjl]
    constructor
    · intro hh;rw [if_neg (hh _ hjl)]
    · intro hh
      rw [if_pos]
      apply Classical.byContradiction
      intro hne
      refine hh (fun q hq=>?_)
      rw [hjl] at hq;injection hq with hq;subst hq;exact hne) (fun _=>hx)]
  congr 1
  have e:(∀ j,j<k→∀ q,l[j]?=some q→f q≠f x)↔(∀ (j:Nat) (q:α),j<k→l[j]?=some q→f q≠f x):=⟨fun h j q hj hq=>h j hj q hq,fun h j hj q hq=>h j q hj hq⟩
  rw [propext e]
theorem Zn9 (a:Zp) (h:sm YN a):Zfb a=some (tr (Zvu a)):=by
  have hc:=ZrA h
  have hs:=Zo hc
  unfold Zfb
  rw [QA (YT hc) (fun k c=>ZmT c∧∀ (j:Nat) (q:Zm),j<k→(Zp.Cells a)[j]?=some q→Zm.Name q≠Zm.Name c) (bad:=false) (good:=tr ((Zp.Cells a).length≤8))
    (fun k c hx hk _=>by
      simp only [ZcM,show (k:Int)<((Zp.Cells a).length:Int) from by omega,if_true,Zt,hx,Option.bind_some,ZrI c (Jd hc hx)]
      by_cases hC:ZmT c
      · rw [if_pos (Ye hC),Zml (f:=Zm.Name) (l:=Zp.Cells a) (x:=c) (k:=k) (by omega) (by omega) (bad:=.inr false) (good:=.inl (IntKind.i64.wrap ((k:Int)+1),()))
          (fun j y hj hy=>by
            simp only [ZcY,show (j:Int)<(k:Int) from by omega,if_true,Zt,hy,Option.bind_some]
            split<;>rfl)
          (by simp only [ZcY,Int.lt_irrefl,if_false])]
        constructor
        · intro hh;rw [YX hh.2]
        · intro hh;rw [YM (fun q=>hh ⟨hC,q⟩)]
      · rw [if_neg (by rw [ZR hC];simp)]
        exact ⟨fun hh=>absurd hh.1 hC,fun _=>rfl⟩)
    (fun _=>by
      simp only [ZcM,Int.lt_irrefl,if_false]
      congr 2
      exact (Zm2 (by rw [decide_eq_true_eq];omega)).symm)]
  rw [Zeu]
  congr 1
  refine YI ?_
  unfold Zvu
  rw [Zit,Zqu,←JB]
  constructor
  · rintro ⟨q,q8⟩
    exact ⟨q8,fun k x hx=>(q k x hx).1,fun k x hx=>⟨(q k x hx).1.1,(q k x hx).2⟩⟩
  · rintro ⟨q8,q1,q2⟩
    exact ⟨fun k x hx=>⟨q1 k x hx,(q2 k x hx).2⟩,q8⟩
theorem ZfT (l:List (List UInt8)) (hl:l.length≤1048576) (hsm:∀ s∈l,s.length≤4611686018427387904):ZcF l=some (tr (Qd l l.length)):=by
  unfold ZcF
  rw [QA (show Len l by show l.length≤4611686018427387904;omega) (fun k s=>Jc s=true∧∀ (j:Nat) (q:List UInt8),j<k→l[j]?=some q→id q≠id s) (bad:=false) (good:=true)
    (fun k s hx hk _=>by
      simp only [ZdI,show (k:Int)<(l.length:Int) from by omega,if_true,Zt,hx,Option.bind_some,Zaf s (hsm s (List.mem_of_getElem? hx))]
      by_cases hC:Jc s=true
      · rw [if_pos hC,Zml (f:=id) (l:=l) (x:=s) (k:=k) (by omega) (by omega) (bad:=.inr false) (good:=.inl (IntKind.i64.wrap ((k:Int)+1),()))
          (fun j y hj hy=>by
            simp only [ZdK,show (j:Int)<(k:Int) from by omega,if_true,Zt,hy,Option.bind_some,id]
            split<;>rfl)
          (by simp only [ZdK,Int.lt_irrefl,if_false])]
        constructor
        · intro hh;rw [YX hh.2]
        · intro hh;rw [YM (fun q=>hh ⟨hC,q⟩)]
      · rw [if_neg hC]
        exact ⟨fun hh=>absurd hh.1 hC,fun _=>rfl⟩)
    (fun _=>by simp only [ZdI,Int.lt_irrefl,if_false]),Zm3]
  congr 1
  refine YI ?_
  have:=Zqu id l
  rw [List.map_id] at this
  exact this.symm
def ZaE (d:Zb):List (List UInt8):=(Zb.Instances d).map Ze.Name
def ZcZ (d:Zb):List (List UInt8):=(Zb.ZK d).map ZT.Name
def ZmN (d:Zb):Prop:=(Zb.Instances d).length≤14∧(Zb.ZI d).length≤30∧(Zb.ZK d).length≤8∧Qd (ZaE d) (ZaE d).length∧Qd (Zb.ZI d) (Zb.ZI d).length∧Qd (ZcZ d) (ZcZ d).length
structure ZDq (d:Zb):Prop where
  insts:sm (.sl ZX) (Zb.Instances d)
  ports:sm (.sl Jf) (Zb.ZK d)
  nets:sm (.sl .str) (Zb.ZI d)
theorem gather {α ρ:Type} {l:List α} (hl:l.length≤1048576) (f:α→List UInt8) {step:List (List UInt8)×Int×Unit→Option ((List (List UInt8)×Int×Unit) ⊕ ρ)} {good:ρ}
    (hs:∀ (k:Nat) (x:α) (o:List (List UInt8)),l[k]?=some x→(k:Int)<(l.length:Int)→o.length=k→step (o,(k:Int),())=Zw ((o.length+[f x].length)*16≤140737488355328) (some (.inl (o++[f x],IntKind.i64.wrap ((k:Int)+1),()))))
    (hx:step (l.map f,(l.length:Int),())=some (.inr good)):Zv step (([]:List (List UInt8)),(0:Int),())=some good:=by
  refine (show Zv step (([]:List (List UInt8)),(0:Int),())=some good from Yo (l:=l) (fun k=>((l.map f).take k,(k:Int),())) (fun k x hx hk=>?_) ?_)
  · have hn:(l.map f)[k]?=some (f x):=by simp [hx]
    have hlen:((l.map f).take k).length=k:=by rw [List.length_take,List.length_map];omega
    rw [hs k x _ hx (by omega) hlen,Zj (by rw [hlen];simp;omega),Z6 hn,XK (by omega)]
  · have e0:(l.map f).take l.length=l.map f:=by rw [show l.length=(l.map f).length by simp,List.take_length]
    simp only [e0]
    exact hx
end Go.Proofs.YtoefbkmllkpkkaaGreatDoor
