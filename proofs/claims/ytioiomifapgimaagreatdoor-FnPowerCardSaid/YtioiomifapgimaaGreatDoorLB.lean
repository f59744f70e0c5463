/-
  Plain ground: gates in order (no program in sight).
-/
import Derived.Test.YtioiomifapgimaaGreatDoorLA
import Derived.Test.YtioiomifapgimaaGreatDoorSxSort
import Derived.Test.YtioiomifapgimaaGreatDoorM
namespace Go.Proofs.YtioiomifapgimaaGreatDoor
set_option linter.unusedVariables false
set_option linter.unusedSimpArgs false
open Go Go.Sx
def Rkd (n:Nat) (ins:Nat->Option (List Nat)) (r:Nat->Nat):Prop:=∀ v l u,v<n->ins v=some l->u∈l->r u<r v
def Logical (n:Nat) (ins:Nat->Option (List Nat)):Prop:=∃ r,Rkd n ins r
def InB (n:Nat) (ins:Nat->Option (List Nat)):Prop:=∀ v l u,v<n->ins v=some l->u∈l->u<n
def isK (kn:List Bool) (u:Nat):Bool:=kn[u]? == some true
def rdy (ins:Nat->Option (List Nat)) (kn:List Bool) (v:Nat):Bool:=match ins v with
 | none=>true
 | some l=>l.all (isK kn)
def stp (ins:Nat->Option (List Nat)) (s:List Bool×List Int) (v:Nat):List Bool×List Int :=
 if isK s.1 v=false/\rdy ins s.1 v=true then (s.1.set v true,s.2++[(v:Int)]) else s
def Zav (ins:Nat->Option (List Nat)) (s:List Bool×List Int) (k:Nat):List Bool×List Int:=(List.range k).foldl (stp ins) s
theorem Zms (ins:Nat->Option (List Nat)) (s:List Bool×List Int):Zav ins s 0=s:=rfl
theorem ZcJ (ins:Nat->Option (List Nat)) (s:List Bool×List Int) (k:Nat):Zav ins s (k+1)=stp ins (Zav ins s k) k:=by
 unfold Zav;rw[List.range_succ,List.foldl_append];rfl
structure Ord (n:Nat) (ins:Nat->Option (List Nat)) (s:List Bool×List Int):Prop where
 len:s.1.length=n
 few:s.2.length<=n
 cnt:s.2.length=s.1.countP (λb=>b)
 mem:∀ v:Nat,isK s.1 v=true<->(v:Int)∈s.2
 bel:∀ (i:Nat) (x:Int),s.2[i]?=some x->∃ v:Nat,x=(v:Int)/\v<n/\(v:Int) ∉ s.2.take i/\∀ l,ins v=some l->∀ u∈l,(u:Int)∈s.2.take i
theorem ZfA {kn:List Bool} {v:Nat} (hv:v<kn.length) (u:Nat):isK (kn.set v true) u=true<->u=v\/isK kn u=true:=by
 unfold isK;rw[List.getElem?_set];by_cases h:v=u
 ·subst h;simp[hv]
 ·rw[if_neg h]
  constructor
  ·exact .inr
  ·rintro (rfl | h2)
   ·exact absurd rfl h
   ·exact h2
theorem countP_set {kn:List Bool}:∀ {v:Nat},v<kn.length->isK kn v=false->(kn.set v true).countP (λb=>b)=kn.countP (λb=>b)+1:=by
 induction kn with
 | nil=>intro v hv;simp at hv
 | cons b r ih =>
  intro v hv hk;cases v with
  | zero =>
   cases b
   ·simp
   ·simp[isK] at hk
  | succ v =>
   have hv':v<r.length:=by simpa using hv
   have hk':isK r v=false:=by simpa[isK] using hk
   rw[List.set_cons_succ,List.countP_cons,List.countP_cons,ih hv' hk'];omega
theorem Ord.step {n:Nat} {ins:Nat->Option (List Nat)} {s:List Bool×List Int} (h:Ord n ins s) {v:Nat} (hv:v<n):Ord n ins (stp ins s v):=by
 unfold stp;split
 ·rename_i hc
  have hl:v<s.1.length:=by rw[h.len];exact hv
  have hcnt:=countP_set hl hc.1;have hnew:(v:Int) ∉ s.2:=λq=>by
   have:=(h.mem v).2 q;rw[hc.1] at this;cases this
  refine ⟨by simp[h.len],?_,?_,λu=>?_,λi x hx=>?_⟩
  ·have:=List.countP_le_length (p:=λb=>b) (l:=s.1.set v true)
   rw[hcnt,List.length_set,h.len] at this;rw[List.length_append,List.length_singleton,h.cnt];omega
  ·show (s.2++[(v:Int)]).length=(s.1.set v true).countP (λb=>b)
   rw[hcnt,List.length_append,List.length_singleton,h.cnt]
  ·show isK (s.1.set v true) u=true<->(u:Int)∈s.2++[(v:Int)]
   rw[ZfA hl,h.mem u,List.mem_append,List.mem_singleton];constructor
   ·rintro (rfl | q)
    ·exact .inr rfl
    ·exact .inl q
   ·rintro (q | q)
    ·exact .inr q
    ·exact .inl (by omega)
  ·have hx:(s.2++[(v:Int)])[i]?=some x:=hx
   show ∃ w:Nat,x=(w:Int)/\w<n/\(w:Int) ∉ (s.2++[(v:Int)]).take i/\∀ l,ins w=some l->∀ u∈l,(u:Int)∈(s.2++[(v:Int)]).take i;by_cases hi:i<s.2.length
   ·rw[List.getElem?_append_left hi] at hx
    obtain ⟨w,e,hw,h1,h2⟩:=h.bel i x hx;rw[List.take_append_of_le_length (by omega)];exact ⟨w,e,hw,h1,h2⟩
   ·rw[List.getElem?_append_right (by omega)] at hx
    have hi2:i=s.2.length:=by
     by_cases q:i-s.2.length=0
     ·omega
     ·rw[List.getElem?_eq_none (by rw[List.length_singleton];omega)] at hx
      cases hx
    subst hi2;rw[Nat.sub_self] at hx;injection hx with hx
    rw[List.take_append_of_le_length (Nat.le_refl _),List.take_length];refine ⟨v,hx.symm,hv,hnew,λl hl u hu=>?_⟩;have hr:=hc.2;unfold rdy at hr;rw[hl] at hr;have:=List.all_eq_true.1 hr u hu;exact (h.mem u).1 this
 ·exact h
theorem Ord.pass {n:Nat} {ins:Nat->Option (List Nat)} {s:List Bool×List Int} (h:Ord n ins s):∀ {k:Nat},k<=n->Ord n ins (Zav ins s k)
 | 0,_=>h
 | k+1,hk=>by rw[ZcJ];exact (h.pass (by omega)).step (by omega)
theorem Zvp (ins:Nat->Option (List Nat)) (s:List Bool×List Int) (v u:Nat) (h:isK s.1 u=true):isK (stp ins s v).1 u=true:=by
 unfold stp;split
 ·rename_i hc
  by_cases hv:v<s.1.length
  ·exact (ZfA hv u).2 (.inr h)
  ·show isK (s.1.set v true) u=true
   rw[List.set_eq_of_length_le (by omega)];exact h
 ·exact h
theorem Zrw (ins:Nat->Option (List Nat)) (s:List Bool×List Int) (u:Nat) (h:isK s.1 u=true):∀ k,isK (Zav ins s k).1 u=true
 | 0=>h
 | k+1=>by rw[ZcJ];exact Zvp ins _ k u (Zrw ins s u h k)
theorem Zvv (ins:Nat->Option (List Nat)) (s:List Bool×List Int) (v:Nat):s.2.length<=(stp ins s v).2.length:=by
 unfold stp;split
 ·simp
 ·exact Nat.le_refl _
theorem Zli (ins:Nat->Option (List Nat)) (s:List Bool×List Int):∀ k j,j<=k->(Zav ins s j).2.length<=(Zav ins s k).2.length
 | 0,j,h=>by
  have:j=0:=by omega
  subst this;exact Nat.le_refl _
 | k+1,j,h=>by
  by_cases q:j=k+1
  ·subst q;exact Nat.le_refl _
  ·have:=Zli ins s k j (by omega)
   have h2:=Zvv ins (Zav ins s k) k;rw[ZcJ];omega
theorem Zpp (ins:Nat->Option (List Nat)) (s:List Bool×List Int) (u:Nat):∀ k,k<=u->isK (Zav ins s k).1 u=isK s.1 u
 | 0,_=>rfl
 | k+1,h=>by
  rw[ZcJ,<-Zpp ins s u k (by omega)];unfold stp;split
  ·show isK ((Zav ins s k).1.set k true) u=_
   unfold isK;rw[List.getElem?_set,if_neg (by omega)]
  ·rfl
theorem lowest (n:Nat) (r:Nat->Nat) (P:Nat->Prop):(∃ v,v<n/\P v)->∃ v,v<n/\P v/\∀ u,u<n->P u->r v<=r u:=by
 intro ⟨v,hv,hp⟩;generalize hm:r v=m;induction m using Nat.strongRecOn generalizing v with
 | _ m ih =>
  by_cases q:∃ u,u<n/\P u/\r u<m
  ·obtain ⟨u,hu,hpu,hru⟩:=q
   exact ih (r u) hru u hu hpu rfl
  ·refine ⟨v,hv,hp,λu hu hpu=>?_⟩
   by_cases q2:r u<m
   ·exact absurd ⟨u,hu,hpu,q2⟩ q
   ·omega
theorem progress {n:Nat} {ins:Nat->Option (List Nat)} (hb:InB n ins) {r:Nat->Nat} (hr:Rkd n ins r) {s:List Bool×List Int} (h:Ord n ins s) (hlt:s.2.length<n):s.2.length<(Zav ins s n).2.length:=by
 have hex:∃ v,v<n/\isK s.1 v=false:=by
  by_cases q:∃ v,v<n/\isK s.1 v=false
  ·exact q
  ·exfalso
   have hall:∀ b∈s.1,b=true:=λb hb=>by
    obtain ⟨i,hi,e⟩:=List.getElem_of_mem hb;by_cases q2:isK s.1 i=false
    ·exact absurd ⟨i,by rw[<-h.len];exact hi,q2⟩ q
    ·have q3:isK s.1 i=true:=by simpa using q2
     unfold isK at q3;rw[List.getElem?_eq_getElem hi,e] at q3;simpa using q3
   have:s.1.countP (λb=>b)=s.1.length:=List.countP_eq_length.2 hall;rw[<-h.cnt,h.len] at this;omega
 obtain ⟨v,hv,hk,hmin⟩:=lowest n r (λv=>isK s.1 v=false) hex;have hs1:=Zli ins s v 0 (Nat.zero_le _);have hs2:=Zli ins s n (v+1) (by omega);rw[Zms] at hs1;have hst:(Zav ins s (v+1)).2.length=(Zav ins s v).2.length+1:=by
  rw[ZcJ];unfold stp;rw[if_pos]
  ·rw[List.length_append,List.length_singleton]
  ·refine ⟨by rw[Zpp ins s v v (Nat.le_refl _)];exact hk,?_⟩
   unfold rdy;cases hi:ins v with
   | none=>rfl
   | some l =>
    refine List.all_eq_true.2 λu hu=>?_;have h1:=hr v l u hv hi hu;have h2:=hb v l u hv hi hu;refine Zrw ins s u ?_ v;by_cases q:isK s.1 u=false
    ·have:=hmin u h2 q
     omega
    ·simpa using q
 omega
theorem Ord.rank {n:Nat} {ins:Nat->Option (List Nat)} {s:List Bool×List Int} (h:Ord n ins s) (hn:s.2.length=n):(∀ v,v<n->(v:Int)∈s.2)/\∃ r,Rkd n ins r/\∀ v,v<n->r v<n/\s.2[r v]?=some (v:Int):=by
 have hall:∀ v,v<n->(v:Int)∈s.2:=λv hv=>by
  have he:s.1.countP (λb=>b)=s.1.length:=by rw[<-h.cnt,h.len,hn]
  have:=List.countP_eq_length.1 he;refine (h.mem v).1 ?_;unfold isK;rw[List.getElem?_eq_getElem (by rw[h.len];exact hv),this _ (List.getElem_mem _)];rfl
 refine ⟨hall,?_⟩;have hix:∀ v,v<n->∃ i,i<n/\s.2[i]?=some (v:Int):=λv hv=>by
  obtain ⟨i,hi,e⟩:=List.getElem_of_mem (hall v hv);exact ⟨i,by rw[<-hn];exact hi,by rw[List.getElem?_eq_getElem hi,e]⟩
 let r:Nat->Nat:=λv=>if hv:v<n then Classical.choose (hix v hv) else 0
 have hrs:∀ v (hv:v<n),r v<n/\s.2[r v]?=some (v:Int):=λv hv=>by
  show (if hv:v<n then Classical.choose (hix v hv) else 0)<n/\_;have:r v=Classical.choose (hix v hv):=by simp only[r,dif_pos hv]
  rw[this,dif_pos hv];exact Classical.choose_spec (hix v hv)
 refine ⟨r,λv l u hv hi hu=>?_,hrs⟩;obtain ⟨hv1,hv2⟩:=hrs v hv;obtain ⟨w,e,hw,h1,h2⟩:=h.bel (r v) v hv2;have e:v=w:=by omega
 subst e;have hu2:=h2 l hi u hu;obtain ⟨j,hj,e2⟩:=List.getElem_of_mem hu2;rw[List.length_take] at hj;rw[List.getElem_take] at e2;have hj2:s.2[j]?=some (u:Int):=by rw[List.getElem?_eq_getElem (by omega),e2]
 obtain ⟨w,e3,hw3,h3,_⟩:=h.bel j u hj2;have e3:u=w:=by omega
 subst e3;obtain ⟨hu3,hu4⟩:=hrs u hw3;have:r u=j:=by
  by_cases q:r u<j
  ·exfalso
   refine h3 (List.mem_of_getElem? (i:=r u) ?_);rw[List.getElem?_take_of_lt q];exact hu4
  ·by_cases q2:j<r u
   ·exfalso
    obtain ⟨w,e4,_,h4,_⟩:=h.bel (r u) u hu4;have e4:u=w:=by omega
    subst e4;refine h4 (List.mem_of_getElem? (i:=j) ?_);rw[List.getElem?_take_of_lt q2];exact hj2
   ·omega
 omega
theorem Ord.start (n:Nat) (ins:Nat->Option (List Nat)):Ord n ins (List.replicate n false,[]):=by
 refine ⟨by simp,by simp,?_,λv=>?_,λi x hx=>by simp at hx⟩
 ·simp[List.countP_replicate]
 ·unfold isK
  simp[List.getElem?_replicate]
def ZaT (L:List Int) (l:List Nat):Int:=l.foldl (λm u=>max m ((L[u]?).getD 0)) 0
def ZrF (ins:Nat->Option (List Nat)) (s:List Int×Bool) (v:Nat):List Int×Bool:=match ins v with
 | none=>s
 | some l=>if (s.1[v]?).getD 0≠ZaT s.1 l+1 then (s.1.set v (ZaT s.1 l+1),true) else s
def Zbl (ins:Nat->Option (List Nat)) (L:List Int) (k:Nat):List Int×Bool:=(List.range k).foldl (ZrF ins) (L,false)
theorem ZcH (ins:Nat->Option (List Nat)) (L:List Int) (k:Nat):Zbl ins L (k+1)=ZrF ins (Zbl ins L k) k:=by
 unfold Zbl;rw[List.range_succ,List.foldl_append];rfl
theorem Zmm (L:List Int) (l:List Nat):0<=ZaT L l/\∀ u∈l,(L[u]?).getD 0<=ZaT L l:=by
 unfold ZaT;have:∀ (l:List Nat) (m:Int),m<=l.foldl (λm u=>max m ((L[u]?).getD 0)) m/\∀ u∈l,(L[u]?).getD 0<=l.foldl (λm u=>max m ((L[u]?).getD 0)) m:=by
  intro l;induction l with
  | nil=>intro m;exact ⟨Int.le_refl _,λu hu=>by cases hu⟩
  | cons a r ih =>
   intro m;obtain ⟨h1,h2⟩:=ih (max m ((L[a]?).getD 0));rw[List.foldl_cons];refine ⟨by omega,λu hu=>?_⟩;rcases List.mem_cons.1 hu with rfl | hu
   ·omega
   ·exact h2 u hu
 exact this l 0
theorem Zpz (L:List Int) (l:List Nat) (c:Int) (h0:0<=c) (h:∀ u∈l,(L[u]?).getD 0<=c):ZaT L l<=c:=by
 unfold ZaT;have:∀ (l:List Nat) (m:Int),m<=c->(∀ u∈l,(L[u]?).getD 0<=c)->l.foldl (λm u=>max m ((L[u]?).getD 0)) m<=c:=by
  intro l;induction l with
  | nil=>intro m hm _;exact hm
  | cons a r ih =>
   intro m hm hl;rw[List.foldl_cons];refine ih _ ?_ λu hu=>hl u (List.mem_cons_of_mem _ hu);have:=hl a List.mem_cons_self;omega
 exact this l 0 h0 h
def ZsP (n:Nat) (c:Int) (L:List Int):Prop:=L.length=n/\∀ u:Nat,0<=(L[u]?).getD 0/\(L[u]?).getD 0<=c
theorem Zrn {L:List Int} {v:Nat} {x:Int} (hv:v<L.length) (u:Nat):((L.set v x)[u]?).getD 0=if u=v then x else (L[u]?).getD 0:=by
 rw[List.getElem?_set];by_cases h:v=u
 ·subst h;simp[hv]
 ·rw[if_neg h,if_neg (λq=>h q.symm)]
theorem ZsP.step {n:Nat} {ins:Nat->Option (List Nat)} {c:Int} {s:List Int×Bool} (h:ZsP n c s.1) {v:Nat} (hv:v<n):ZsP n (c+1) (ZrF ins s v).1:=by
 have h0:0<=c:=by have:=h.2 0;omega
 have keep:ZsP n (c+1) s.1:=⟨h.1,λu=>by have:=h.2 u;omega⟩;unfold ZrF;split
 ·exact keep
 ·rename_i l hl
  split
  ·have h1:=Zmm s.1 l
   have h2:=Zpz s.1 l c h0 λu _=>(h.2 u).2;refine ⟨by simp[h.1],λu=>?_⟩;show 0<=((s.1.set v (ZaT s.1 l+1))[u]?).getD 0/\_<=c+1;rw[Zrn (by rw[h.1];exact hv)];have:=h.2 u;split<;>omega
  ·exact keep
theorem ZsP.pass {n:Nat} {ins:Nat->Option (List Nat)} {c:Int} {L:List Int} (h:ZsP n c L):∀ {k:Nat},k<=n->ZsP n (c+(k:Int)) (Zbl ins L k).1
 | 0,_=>by
  show ZsP n (c+((0:Nat):Int)) L;rw[show c+((0:Nat):Int)=c by omega];exact h
 | k+1,hk=>by
  rw[ZcH];have:=(h.pass (ins:=ins) (k:=k) (by omega)).step (ins:=ins) (v:=k) (by omega);rw[show c+((k+1:Nat):Int)=c+(k:Int)+1 by omega];exact this
theorem ZnN {ins:Nat->Option (List Nat)} {L:List Int}:∀ {k j:Nat},j<=k->(Zbl ins L j).2=true->(Zbl ins L k).2=true
 | 0,j,h,e=>by
  have:j=0:=by omega
  subst this;exact e
 | k+1,j,h,e=>by
  by_cases q:j=k+1
  ·subst q;exact e
  ·have:=ZnN (k:=k) (j:=j) (by omega) e
   rw[ZcH];unfold ZrF;split
   ·exact this
   ·split
    ·rfl
    ·exact this
theorem Zmk {ins:Nat->Option (List Nat)} {L:List Int}:∀ {k:Nat},(Zbl ins L k).2=false->(Zbl ins L k).1=L/\∀ v,v<k->∀ l,ins v=some l->(L[v]?).getD 0=ZaT L l+1
 | 0,_=>⟨rfl,λv hv=>by omega⟩
 | k+1,h=>by
  rw[ZcH] at h ⊢;have hk:(Zbl ins L k).2=false:=by
   cases q:(Zbl ins L k).2 with
   | false=>rfl
   | true =>
    have:(Zbl ins L (k+1)).2=true:=ZnN (j:=k) (by omega) q;rw[ZcH,h] at this;cases this
  obtain ⟨e,ih⟩:=Zmk hk;unfold ZrF at h ⊢;cases hi:ins k with
  | none =>
   simp only[hi] at h ⊢;refine ⟨e,λv hv l hl=>?_⟩;by_cases q:v=k
   ·subst q;rw[hi] at hl;cases hl
   ·exact ih v (by omega) l hl
  | some l =>
   simp only[hi] at h ⊢;by_cases q:((Zbl ins L k).1[k]?).getD 0≠ZaT (Zbl ins L k).1 l+1
   ·rw[if_pos q] at h;cases h
   ·rw[if_neg q]
    refine ⟨e,λv hv l' hl'=>?_⟩;by_cases q2:v=k
    ·subst q2
     rw[hi] at hl';injection hl' with hl'
     subst hl';rw[e] at q;exact Decidable.of_not_not q
    ·exact ih v (by omega) l' hl'
theorem Zuv {n:Nat} {ins:Nat->Option (List Nat)} {L:List Int} (h:(Zbl ins L n).2=false) (h0:∀ u:Nat,0<=(L[u]?).getD 0):Rkd n ins (λv=>((L[v]?).getD 0).toNat):=by
 intro v l u hv hi hu;have h1:=(Zmk h).2 v hv l hi;have h2:=(Zmm L l).2 u hu;have h3:=h0 u;show ((L[u]?).getD 0).toNat<((L[v]?).getD 0).toNat;omega
def ZaD (ins:Nat->Option (List Nat)) (n:Nat):Nat->List Int
 | 0=>List.replicate n 0
 | k+1=>(Zbl ins (ZaD ins n k) n).1
theorem ZnO (ins:Nat->Option (List Nat)) (n:Nat):∀ k,ZsP n ((k*n:Nat):Int) (ZaD ins n k)
 | 0=>⟨by simp[ZaD],λu=>by
  have:((List.replicate n (0:Int))[u]?).getD 0=0:=by
   rw[List.getElem?_replicate];split<;>rfl
  show 0<=((List.replicate n (0:Int))[u]?).getD 0/\((List.replicate n (0:Int))[u]?).getD 0<=_;rw[this];omega⟩
 | k+1=>by
  have:=(ZnO ins n k).pass (ins:=ins) (k:=n) (Nat.le_refl _);rw[show (((k+1)*n:Nat):Int)=((k*n:Nat):Int)+(n:Int) by rw[Nat.succ_mul];omega];exact this
def Right (n:Nat) (ins:Nat->Option (List Nat)) (r:Nat->Nat) (F:Nat->Int) (j:Nat) (L:List Int):Prop:=∀ v,v<n->r v<j->(L[v]?).getD 0=F v
theorem Zu6 {n:Nat} {ins:Nat->Option (List Nat)} {r:Nat->Nat} (hr:Rkd n ins r) (hb:InB n ins) (hrn:∀ v,v<n->r v<n):∀ j,j<=n->∃ F:Nat->Int,∀ v,v<n->r v<j->match ins v with
  | none=>F v=0
  | some l=>F v=l.foldl (λm u=>max m (F u)) 0+1:=by
 intro j;induction j with
 | zero=>intro _;exact ⟨λ_=>0,λv _ h=>by omega⟩
 | succ j ih =>
  intro hj;obtain ⟨F,hF⟩:=ih (by omega);have hfold:∀ (G:Nat->Int) (l:List Nat) (m:Int),(∀ u∈l,G u=F u)->l.foldl (λm u=>max m (G u)) m=l.foldl (λm u=>max m (F u)) m:=by
   intro G l;induction l with
   | nil=>intro m _;rfl
   | cons a t iht =>
    intro m h;rw[List.foldl_cons,List.foldl_cons,h a List.mem_cons_self,iht _ λu hu=>h u (List.mem_cons_of_mem _ hu)]
  refine ⟨λv=>if r v<j then F v else match ins v with
   | none=>0
   | some l=>l.foldl (λm u=>max m (F u)) 0+1,λv hv hrv=>?_⟩
  have hF2:=hF v hv;cases hi:ins v with
  | none =>
   simp only[hi] at hF2 ⊢;split
   ·exact hF2 (by assumption)
   ·rfl
  | some l =>
   simp only[hi] at hF2 ⊢;have hl:∀ u∈l,(if r u<j then F u else match ins u with | none=>0 | some l=>l.foldl (λm u=>max m (F u)) 0+1)=F u:=λu hu=>by
    have:=hr v l u hv hi hu;rw[if_pos (by omega)]
   rw[hfold _ l 0 hl];split
   ·exact hF2 (by assumption)
   ·rfl
theorem ZlG {L:List Int} {F:Nat->Int}:∀ {l:List Nat} {m:Int},(∀ u∈l,(L[u]?).getD 0=F u)->l.foldl (λm u=>max m ((L[u]?).getD 0)) m=l.foldl (λm u=>max m (F u)) m
 | [],m,_=>rfl
 | a::t,m,h=>by
  rw[List.foldl_cons,List.foldl_cons,h a List.mem_cons_self,ZlG λu hu=>h u (List.mem_cons_of_mem _ hu)]
theorem ZsG {n:Nat} {ins:Nat->Option (List Nat)} {r:Nat->Nat} (hr:Rkd n ins r) (hb:InB n ins) {F:Nat->Int}
  (hF:∀ v,v<n->match ins v with
   | none=>F v=0
   | some l=>F v=l.foldl (λm u=>max m (F u)) 0+1) {L:List Int} (hL:L.length=n) {j:Nat} (h:Right n ins r F j L) (hs:∀ v,v<n->ins v=none->(L[v]?).getD 0=0) :
  ∀ k,k<=n->(Zbl ins L k).1.length=n/\Right n ins r F j (Zbl ins L k).1/\(∀ v,v<n->ins v=none->((Zbl ins L k).1[v]?).getD 0=0)/\(∀ v,v<k->r v<j+1->((Zbl ins L k).1[v]?).getD 0=F v):=by
 intro k;induction k with
 | zero=>intro _;exact ⟨hL,h,hs,λv hv=>by omega⟩
 | succ k ih =>
  intro hk;obtain ⟨h1,h2,h3,h4⟩:=ih (by omega);rw[ZcH];generalize hS:Zbl ins L k=S at h1 h2 h3 h4 ⊢;have hFk:=hF k (by omega);unfold ZrF;cases hi:ins k with
  | none =>
   simp only[hi] at hFk ⊢;refine ⟨h1,h2,h3,λv hv hrv=>?_⟩;by_cases q:v=k
   ·subst q;rw[h3 v (by omega) hi,hFk]
   ·exact h4 v (by omega) hrv
  | some l =>
   simp only[hi] at hFk ⊢;have hm:r k<j+1->ZaT S.1 l+1=F k:=λhrk=>by
    rw[hFk];unfold ZaT;rw[ZlG λu hu=>h2 u (hb k l u (by omega) hi hu) (by have:=hr k l u (by omega) hi hu;omega)]
   have hset:∀ u,((if (S.1[k]?).getD 0≠ZaT S.1 l+1 then (S.1.set k (ZaT S.1 l+1),true) else S).1[u]?).getD 0=if u=k then ZaT S.1 l+1 else (S.1[u]?).getD 0:=λu=>by
    by_cases q:(S.1[k]?).getD 0≠ZaT S.1 l+1
    ·rw[if_pos q]
     exact Zrn (by rw[h1];omega) u
    ·rw[if_neg q]
     split
     ·rename_i e;rw[e];exact Decidable.of_not_not q
     ·rfl
   refine ⟨?_,λv hv hrv=>?_,λv hv hvi=>?_,λv hv hrv=>?_⟩
   ·split
    ·simp[h1]
    ·exact h1
   ·rw[hset]
    split
    ·rename_i e;rw[hm (by rw[<-e];omega),e]
    ·exact h2 v hv hrv
   ·rw[hset,if_neg (λe=>by rw[e,hi] at hvi;cases hvi)]
    exact h3 v hv hvi
   ·rw[hset]
    split
    ·rename_i e;rw[hm (by rw[<-e];exact hrv),e]
    ·exact h4 v (by omega) hrv
theorem ZsH {n:Nat} {ins:Nat->Option (List Nat)} {r:Nat->Nat} (hr:Rkd n ins r) (hb:InB n ins) (hrn:∀ v,v<n->r v<n):(Zbl ins (ZaD ins n n) n).2=false:=by
 obtain ⟨F,hF⟩:=Zu6 hr hb hrn n (Nat.le_refl _);have hF':∀ v,v<n->match ins v with
   | none=>F v=0
   | some l=>F v=l.foldl (λm u=>max m (F u)) 0+1:=λv hv=>hF v hv (hrn v hv)
 have key:∀ j,(ZaD ins n j).length=n/\Right n ins r F j (ZaD ins n j)/\∀ v,v<n->ins v=none->((ZaD ins n j)[v]?).getD 0=0:=by
  intro j;induction j with
  | zero=>exact ⟨by simp[ZaD],λv _ h=>by omega,λv hv _=>by
    show ((List.replicate n (0:Int))[v]?).getD 0=0;rw[List.getElem?_replicate];split<;>rfl⟩
  | succ j ih =>
   obtain ⟨a,b,c⟩:=ih;obtain ⟨p,q,s,t⟩:=ZsG hr hb hF' a b c n (Nat.le_refl _);exact ⟨p,λv hv hrv=>t v hv hrv,s⟩
 obtain ⟨a,b,c⟩:=key n;cases hq:(Zbl ins (ZaD ins n n) n).2 with
 | false=>rfl
 | true =>
  exfalso;have:∀ k,k<=n->Zbl ins (ZaD ins n n) k=(ZaD ins n n,false):=by
   intro k;induction k with
   | zero=>intro _;rfl
   | succ k ih =>
    intro hk;rw[ZcH,ih (by omega)];unfold ZrF;cases hi:ins k with
    | none=>rfl
    | some l =>
     have hFk:=hF' k (by omega);simp only[hi] at hFk;show (if ((ZaD ins n n)[k]?).getD 0≠ZaT (ZaD ins n n) l+1 then _ else _)=_;rw[if_neg];refine λq=>q ?_;rw[b k (by omega) (hrn k (by omega)),hFk];unfold ZaT;rw[ZlG λu hu=>b u (hb k l u (by omega) hi hu) (hrn u (hb k l u (by omega) hi hu))]
  rw[this n (Nat.le_refl _)] at hq;cases hq
theorem Zxa {l:List Int} {x:Int}:x∈srt l<->x∈l:=List.mem_mergeSort
theorem Zxr (l:List Int):(srt l).length=l.length:=List.length_mergeSort _
theorem ZtY {l:List Int} {x:Int}:x∈Zij l<->x∈l:=by
 unfold Zij Lib.compactUpTo;rw[List.mem_map];constructor
 ·grind
 ·intro h
  obtain ⟨j,hj,e⟩:=List.getElem_of_mem h;have key:∀ (n j:Nat),j<=n->(hj:j<l.length)->l[j]=x->∃ a,a∈(List.range l.toArray.size).filter (Lib.keeps l.toArray)/\l.toArray[a]! = x:=by
   intro n;induction n with
   | zero =>
    intro j hn hj e;have:j=0:=by omega
    subst this;refine ⟨0,List.mem_filter.2 ⟨List.mem_range.2 (by simpa using hj),by unfold Lib.keeps;simp⟩,?_⟩;grind
   | succ n ih =>
    intro j hn hj e;have e2:l.toArray[j]! = x:=by grind
    by_cases hk:Lib.keeps l.toArray j=true
    ·grind
    ·unfold Lib.keeps at hk
     grind
  exact key j j (Nat.le_refl _) hj e
inductive ZGg (ins:Nat->Option (List Nat)):Nat->Nat->Prop
 | base {v:Nat}:ins v=none->ZGg ins v v
 | step {v u s:Nat} {l:List Nat}:ins v=some l->u∈l->ZGg ins u s->ZGg ins v s
theorem ZoT {ins:Nat->Option (List Nat)} {v s:Nat} (h:ins v=none):ZGg ins v s<->s=v:=by
 constructor
 ·intro q
  cases q with
  | base _=>rfl
  | step h2 _ _=>rw[h] at h2;cases h2
 ·rintro rfl
  exact .base h
theorem Zlm {ins:Nat->Option (List Nat)} {v s:Nat} {l:List Nat} (h:ins v=some l):ZGg ins v s<->∃ u,u∈l/\ZGg ins u s:=by
 constructor
 ·intro q
  cases q with
  | base h2=>rw[h] at h2;cases h2
  | step h2 hu hs =>
   rw[h] at h2;injection h2 with h2
   subst h2;exact ⟨_,hu,hs⟩
 ·rintro ⟨u,hu,hs⟩
  exact .step h hu hs
theorem ZyR {ins:Nat->Option (List Nat)} {v s:Nat} (h:ZGg ins v s):ins s=none:=by
 induction h with
 | base h=>exact h
 | step _ _ _ ih=>exact ih
theorem Zut {n:Nat} {ins:Nat->Option (List Nat)} (hb:InB n ins) {v s:Nat} (h:ZGg ins v s):v<n->s<n:=by
 induction h with
 | base h=>exact id
 | step hi hu _ ih=>exact λhv=>ih (hb _ _ _ hv hi hu)
theorem ZyQ {n:Nat} {ins:Nat->Option (List Nat)} (hb:InB n ins) {r:Nat->Nat} (hr:Rkd n ins r) (hne:∀ v l,v<n->ins v=some l->l≠[]) {v:Nat} (hv:v<n):∃ s,ZGg ins v s:=by
 generalize hm:r v=m;induction m using Nat.strongRecOn generalizing v with
 | _ m ih =>
  cases hi:ins v with
  | none=>exact ⟨v,.base hi⟩
  | some l =>
   cases l with
   | nil=>exact absurd rfl (hne v [] hv hi)
   | cons u t =>
    have hu:u∈u::t:=List.mem_cons_self;obtain ⟨s,hs⟩:=ih (r u) (by rw[<-hm];exact hr v _ u hv hi hu) (hb v _ u hv hi hu) rfl;exact ⟨s,.step hi hu hs⟩
def ZnP (k:Nat) (b:Bool):List Int:=if b=true then [(k:Int)] else []
theorem Zlj (l:List Bool) (m:Nat):(cat ZnP m l).length<=l.length:=by
 have:=Zfp (f:=ZnP) (c:=1) (l:=l) (m:=m) (λi x _=>by unfold ZnP;split<;>simp)
 omega
noncomputable def ZvY (n:Nat) (ins:Nat->Option (List Nat)) (v:Nat):List Bool:=(List.range n).map λs=>tr (ZGg ins v s)
noncomputable def Zdg (n:Nat) (ins:Nat->Option (List Nat)) (v:Nat):List Int:=cat ZnP 0 (ZvY n ins v)
theorem mem_listed {l:List Bool} {m:Nat} {x:Int}:x∈cat ZnP m l<->∃ k:Nat,l[k]?=some true/\x=((m+k:Nat):Int):=by
 rw[ZcI];constructor
 ·rintro ⟨k,b,hb,hx⟩
  unfold ZnP at hx;cases b with
  | false=>cases hx
  | true=>exact ⟨k,hb,by simpa using hx⟩
 ·rintro ⟨k,hk,rfl⟩
  exact ⟨k,true,hk,by simp[ZnP]⟩
theorem Zr4 {n:Nat} {ins:Nat->Option (List Nat)} {v k:Nat}:(ZvY n ins v)[k]?=some true<->k<n/\ZGg ins v k:=by
 unfold ZvY;rw[List.getElem?_map];by_cases h:k<n
 ·rw[List.getElem?_range h]
  simp[Xn,h]
 ·rw[List.getElem?_eq_none (by simpa using h)]
  simp[h]
theorem ZfJ {n:Nat} {ins:Nat->Option (List Nat)} (hb:InB n ins) {v:Nat} (hv:v<n) {x:Int}:x∈Zdg n ins v<->∃ s:Nat,x=(s:Int)/\ZGg ins v s:=by
 unfold Zdg;rw[mem_listed];constructor
 ·rintro ⟨k,hk,e⟩
  exact ⟨k,by rw[e];congr 1;omega,(Zr4.1 hk).2⟩
 ·rintro ⟨s,e,hs⟩
  exact ⟨s,Zr4.2 ⟨Zut hb hs hv,hs⟩,by rw[e];congr 1;omega⟩
theorem Zlq (n:Nat) (ins:Nat->Option (List Nat)) (v:Nat):(Zdg n ins v).length<=n:=by
 have:=Zlj (ZvY n ins v) 0;unfold Zdg;unfold ZvY at this ⊢;simpa using this
theorem ZnM:∀ (l:List Bool) (m:Nat),(cat ZnP m l).Pairwise (·<·)/\∀ x∈cat ZnP m l,(m:Int)<=x:=by
 intro l;induction l with
 | nil=>intro m;exact ⟨List.Pairwise.nil,λx hx=>by cases hx⟩
 | cons b r ih =>
  intro m;obtain ⟨h1,h2⟩:=ih (m+1);show (ZnP m b++cat ZnP (m+1) r).Pairwise (·<·)/\∀ x∈ZnP m b++cat ZnP (m+1) r,(m:Int)<=x;cases b with
  | false =>
   refine ⟨h1,λx hx=>?_⟩;have:=h2 x hx;omega
  | true =>
   refine ⟨List.Pairwise.cons (λx hx=>?_) h1,λx hx=>?_⟩
   ·have:=h2 x hx
    omega
   ·rcases List.mem_cons.1 hx with rfl | hx
    ·exact Int.le_refl _
    ·have:=h2 x hx
     omega
theorem Zlp (n:Nat) (ins:Nat->Option (List Nat)) (v:Nat):(Zdg n ins v).Pairwise (·<·):=(ZnM _ 0).1
theorem Zqp:∀ {a b:List Int},a.Pairwise (·<·)->b.Pairwise (·<·)->(∀ x,x∈a<->x∈b)->a=b
 | [],[],_,_,_=>rfl
 | [],y::b,_,_,h=>by have:=(h y).2 List.mem_cons_self;cases this
 | x::a,[],_,_,h=>by have:=(h x).1 List.mem_cons_self;cases this
 | x::a,y::b,ha,hb,h=>by
  obtain ⟨a1,a2⟩:=List.pairwise_cons.1 ha;obtain ⟨b1,b2⟩:=List.pairwise_cons.1 hb;have exy:x=y:=by
   rcases List.mem_cons.1 ((h x).1 List.mem_cons_self) with e | q
   ·exact e
   ·rcases List.mem_cons.1 ((h y).2 List.mem_cons_self) with e | q2
    ·exact e.symm
    ·have:=a1 y q2
     have:=b1 x q;omega
  subst exy;rw[Zqp a2 b2 λz=>?_];constructor
  ·intro hz
   rcases List.mem_cons.1 ((h z).1 (List.mem_cons_of_mem _ hz)) with e | q
   ·have:=a1 z hz;omega
   ·exact q
  ·intro hz
   rcases List.mem_cons.1 ((h z).2 (List.mem_cons_of_mem _ hz)) with e | q
   ·have:=b1 z hz;omega
   ·exact q
theorem ZsL (l:List Int):(srt l).Pairwise (·<=·):=by
 have:=List.pairwise_mergeSort (le:=λx y:Int=>decide (x<=y)) (λa b c h1 h2=>by simp only[decide_eq_true_eq] at *;omega) (λa b=>by simp only[Bool.or_eq_true,decide_eq_true_eq];omega) l;unfold srt;exact this.imp λh=>by simpa using h
theorem Zs9 {l:List Int} (h:l.Pairwise (·<=·)):(Zij l).Pairwise (·<·):=by
 unfold Zij Lib.compactUpTo;rw[List.pairwise_map];have h1:((List.range l.toArray.size).filter (Lib.keeps l.toArray)).Pairwise (·<·):=List.Pairwise.filter _ List.pairwise_lt_range;refine List.Pairwise.imp_of_mem ?_ h1;intro i j hi hj hij;have hi2:=List.mem_range.1 (List.mem_filter.1 hi).1;have hj2:=List.mem_range.1 (List.mem_filter.1 hj).1;have hk:=(List.mem_filter.1 hj).2;rw[List.size_toArray] at hi2 hj2;unfold Lib.keeps at hk;have hk:=of_decide_eq_true hk;have mono:∀ a b:Nat,(hab:a<=b)->(hb:b<l.length)->l[a]'(by omega)<=l[b]:=λa b hab hb=>by
  by_cases q:a=b
  ·subst q;exact Int.le_refl _
  ·exact List.pairwise_iff_getElem.1 h a b (by omega) hb (by omega)
 have e1:l.toArray[i]! = l[i]:=by rw[getElem!_pos _ i (by simpa using hi2)];simp
 have e2:l.toArray[j]! = l[j]:=by rw[getElem!_pos _ j (by simpa using hj2)];simp
 have e3:l.toArray[j-1]! = l[j-1]:=by rw[getElem!_pos _ (j-1) (by simp only[List.size_toArray];omega)];simp
 rw[e1,e2];rw[e2,e3] at hk;have m1:=mono i (j-1) (by omega) (by omega);have m2:=mono (j-1) j (by omega) hj2;rcases hk with q | q
 ·omega
 ·omega
theorem ZA0 {l r:List Int} (hr:r.Pairwise (·<·)) (h:∀ x,x∈l<->x∈r):Zij (srt l)=r:=Zqp (Zs9 (ZsL l)) hr λx=>by rw[ZtY,Zxa,h]
def ZBS (n:Nat) (ins:Nat->Option (List Nat)) (tt:Nat->List Int->Int) (a W:Nat->Int):Prop:=∀ v,v<n->match ins v with
 | none=>W v=a v
 | some l=>W v=tt v (l.map W)
theorem Zx4 {n:Nat} {ins:Nat->Option (List Nat)} {r:Nat->Nat} (hr:Rkd n ins r) (hb:InB n ins) (hrn:∀ v,v<n->r v<n) (tt:Nat->List Int->Int) (a:Nat->Int):∃ W,ZBS n ins tt a W:=by
 have key:∀ j,∃ W:Nat->Int,∀ v,v<n->r v<j->match ins v with
   | none=>W v=a v
   | some l=>W v=tt v (l.map W):=by
  intro j;induction j with
  | zero=>exact ⟨λ_=>0,λv _ h=>by omega⟩
  | succ j ih =>
   obtain ⟨W,hW⟩:=ih;refine ⟨λv=>if r v<j then W v else match ins v with
    | none=>a v
    | some l=>tt v (l.map W),λv hv hrv=>?_⟩
   have hW2:=hW v hv;cases hi:ins v with
   | none =>
    simp only[hi] at hW2 ⊢;split
    ·exact hW2 (by assumption)
    ·rfl
   | some l =>
    simp only[hi] at hW2 ⊢;have e:l.map (λv=>if r v<j then W v else match ins v with
     | none=>a v
     | some l=>tt v (l.map W))=l.map W:=List.map_congr_left λu hu=>by
      have:=hr v l u hv hi hu;rw[if_pos (by omega)]
    rw[e];split
    ·exact hW2 (by assumption)
    ·rfl
 obtain ⟨W,hW⟩:=key n;exact ⟨W,λv hv=>hW v hv (hrn v hv)⟩
theorem along {n:Nat} {ins:Nat->Option (List Nat)} {s:List Bool×List Int} (h:Ord n ins s) {α τ ρ:Type} (pk:List α->Int->τ) (F:Nat->α) {step:τ->Option (τ ⊕ ρ)} {good:List α->ρ} {z:List α} (hz:z.length=n) (hn:n<=1048576)
  (hstep:∀ (k v:Nat) (out:List α),s.2[k]?=some (v:Int)->k<s.2.length->k<=1048576->v<n->out.length=n->(∀ l,ins v=some l->∀ u∈l,out[u]?=some (F u))->step (pk out (k:Int))=some (.inl (pk (out.set v (F v)) ((k+1:Nat):Int))))
  (hend:∀ out:List α,out.length=n->step (pk out (s.2.length:Int))=some (.inr (good out))) :
  ∃ out,Zn step (pk z 0)=some (good out)/\out.length=n/\∀ v:Nat,(v:Int)∈s.2->out[v]?=some (F v):=by
 have hlen:s.2.length<=n:=h.few;obtain ⟨r,e,out,rfl,h1,h2⟩:∃ r,Zn step (pk z 0)=some r/\∃ out,r=good out/\out.length=n/\∀ v:Nat,(v:Int)∈s.2->out[v]?=some (F v):=by
  refine Xa s.2.length (λk v=>∃ out,v=pk out (k:Int)/\out.length=n/\∀ w:Nat,(w:Int)∈s.2.take k->out[w]?=some (F w)) _ ⟨z,rfl,hz,λw hw=>by simp at hw⟩ ?_ ?_
  ·rintro k _ hk ⟨out,rfl,hl,hF⟩
   have hx:s.2[k]?=some s.2[k]:=List.getElem?_eq_getElem hk;obtain ⟨v,ev,hv,hnew,hin⟩:=h.bel k _ hx;rw[ev] at hx;left;refine ⟨_,hstep k v out hx hk (by omega) hv hl (λl hl2 u hu=>hF u (hin l hl2 u hu)),_,rfl,by simp[hl],λw hw=>?_⟩;rw[List.take_add_one,hx] at hw;rw[List.getElem?_set];by_cases q:v=w
   ·subst q
    rw[if_pos rfl,if_pos (by omega)]
   ·rw[if_neg q]
    refine hF w ?_;rcases List.mem_append.1 hw with w1 | w1
    ·exact w1
    ·have:(w:Int)=(v:Int):=by simpa using w1
     omega
  ·rintro _ ⟨out,rfl,hl,hF⟩
   rw[hend out hl];exact ⟨_,rfl,out,rfl,hl,λw hw=>hF w (by rw[List.take_length];exact hw)⟩
 exact ⟨out,e,h1,h2⟩
abbrev insts (b:Ze):List Zd:=Zc.Instances (Ze.Design b)
abbrev Yc (b:Ze):Nat:=(Zc.YK (Ze.Design b)).length
def kindOf (b:Ze) (x:Zd):Int:=match (Zt.Cells (Ze.Library b))[(Zd.Cell x).toNat]? with
 | some c=>Zm.Kind c
 | none=>0
structure ZuX (b:Ze) (x:Zd) (c:Zm):Prop where
 at_:atI (Zt.Cells (Ze.Library b)) (Zd.Cell x)=some c
 kind:kindOf b x=Zm.Kind c
 mem:c∈Zt.Cells (Ze.Library b)
 ok:ZhR c
 len:(Zd.YK x).length=(Zm.YR c).length
 two:2<=(Zd.YK x).length
 few:(Zd.YK x).length<=5
theorem ZjP {b:Ze} (h:Va b) {x:Zd} (hx:x∈insts b):∃ c,ZuX b x c:=by
 obtain ⟨h0,⟨c,hc,hn⟩,_⟩:=h.ok.1.2.2.1 x hx;have hm:=List.mem_of_getElem? hc;have hk:=h.ok.1.1.2.1 c hm;have h5:=h.ok.1.few.nets x hx;exact ⟨c,ZcU h0.1 hc,by unfold kindOf;rw[hc],hm,hk,hn,by have:=hk.2.1.1;omega,h5⟩
theorem Zpa {b:Ze} {i:Nat} {x:Zd} {c:Zm} (hx:(insts b)[i]?=some x) (h:ZuX b x c):VE b (i:Int)=some c:=by
 unfold VE;rw[Zo,hx,Bq,h.at_];rfl
theorem last_at {b:Ze} (h:Va b) {x:Zd} (hx:x∈insts b):atI (Zd.YK x) (Wq (((Zd.YK x).length:Int)-1))=some (YQ x)/\0<=YQ x/\YQ x<(Yc b:Int):=by
 have h5:=h.ok.1.few.nets x hx;obtain ⟨h1,h2,h3⟩:=(h.ok.1.2.2.1 x hx).last h.ok.1.1 (by omega);exact ⟨h1,h2,by unfold Yc;omega⟩
theorem ZlT {b:Ze} (h:Va b) {i j:Nat} {x y:Zd} (hx:(insts b)[i]?=some x) (hy:(insts b)[j]?=some y) (e:YQ x=YQ y):i=j:=by
 obtain ⟨_,l0,l1⟩:=last_at h (List.mem_of_getElem? hx);obtain ⟨v,hv⟩:∃ v:Nat,YQ x=(v:Int):=⟨(YQ x).toNat,by omega⟩;have h1:=h.ok.1.2.2.2.2 _ (List.mem_of_getElem? (Zfq (s:=Zvd (Ze.Design b)) (show v<(Zc.YK (Ze.Design b)).length by unfold Yc at l1;omega)));have get:∀ {k:Nat} {z:Zd},(insts b)[k]?=some z->(Zvd (Ze.Design b))[k]?=some (YQ z):=λ{k z} hz=>by
  have hk:=(List.getElem?_eq_some_iff.1 hz).1;unfold Zvd;rw[List.getElem?_append_left (by rw[List.length_map];exact hk),List.getElem?_map,hz];rfl
 rcases Nat.lt_trichotomy i j with hlt | q | hlt
 ·have:=Zhv (p:=λx=>decide (x=(v:Int))) hlt (get hx) (get hy) (by simp[hv]) (by simp[<-e,hv])
  omega
 ·exact q
 ·have:=Zhv (p:=λx=>decide (x=(v:Int))) hlt (get hy) (get hx) (by simp[<-e,hv]) (by simp[hv])
  omega
theorem Zuc {b:Ze} (h:Va b) {i:Nat} {x:Zd} {p:Z8} (hx:(insts b)[i]?=some x) (hp:p∈Zc.Xi (Ze.Design b)) (hd:Z8.Dir p=1) (e:YQ x=Z8.Net p):False:=by
 obtain ⟨_,l0,l1⟩:=last_at h (List.mem_of_getElem? hx);obtain ⟨v,hv⟩:∃ v:Nat,YQ x=(v:Int):=⟨(YQ x).toNat,by omega⟩;have h1:=h.ok.1.2.2.2.2 _ (List.mem_of_getElem? (Zfq (s:=Zvd (Ze.Design b)) (show v<(Zc.YK (Ze.Design b)).length by unfold Yc at l1;omega)));unfold Zvd at h1;rw[List.countP_append] at h1;have c1:0<(((Zc.Instances (Ze.Design b)).map YQ).countP λx=>decide (x=(v:Int))):=List.countP_pos_iff.2 ⟨YQ x,List.mem_map_of_mem (List.mem_of_getElem? hx),by simp[hv]⟩;have c2:0<((((Zc.Xi (Ze.Design b)).filter (λp=>decide (Z8.Dir p=1))).map Z8.Net).countP λx=>decide (x=(v:Int))) :=
  List.countP_pos_iff.2 ⟨Z8.Net p,List.mem_map_of_mem (List.mem_filter.2 ⟨hp,by simp[hd]⟩),by simp[<-e,hv]⟩
 omega
def gP (b:Ze) (v:Nat) (x:Zd):Bool:=decide (YQ x=(v:Int))&&decide (kindOf b x=1)
def gF (b:Ze) (v:Nat):Int:=XI (gP b v) (insts b)
theorem ZlD {α:Type} {p:α->Bool} {l:List α} (h:∀ x∈l,p x=false):XI p l=-1:=by
 unfold XI;rw[List.findIdx?_eq_none_iff.2 h]
theorem Zql {α:Type} {p:α->Bool} {l:List α} {k:Nat} {x:α} (hx:l[k]?=some x):XI p (l.take (k+1))=if 0<=XI p (l.take k) then XI p (l.take k) else if p x=true then (k:Int) else -1:=by
 have hk:=(List.getElem?_eq_some_iff.1 hx).1;rw[Yp hx];unfold XI;rw[List.findIdx?_append];cases h:(l.take k).findIdx? p with
 | some i=>simp
 | none =>
  rw[if_neg (by show ¬(0:Int)<=-1;omega),List.length_take,Nat.min_eq_left (by omega)];by_cases q:p x=true
  ·simp[List.findIdx?_cons,q]
  ·simp[List.findIdx?_cons,q]
theorem ZyA {b:Ze} (h:Va b) {i v:Nat} {x:Zd} (hx:(insts b)[i]?=some x) (hl:YQ x=(v:Int)) (hk:kindOf b x=1):gF b v=(i:Int) :=
 ZgV hx (by simp[gP,hl,hk]) λj y hj hy=>by
  cases hb:gP b v y with
  | false=>rfl
  | true =>
   unfold gP at hb;simp only[Bool.and_eq_true,decide_eq_true_eq] at hb;have:=ZlT h hx hy (by rw[hl,hb.1]);omega
theorem ZtB {b:Ze} {v:Nat} (h:∀ (i:Nat) (x:Zd),(insts b)[i]?=some x->YQ x=(v:Int)->kindOf b x≠1):gF b v=-1 :=
 ZlD λx hx=>by
  obtain ⟨i,hi⟩:=List.mem_iff_getElem?.1 hx;have:=h i x hi;unfold gP;simp only[Bool.and_eq_false_iff,decide_eq_false_iff_not];by_cases q:YQ x=(v:Int)
  ·exact .inr (this q)
  ·exact .inl q
structure Zp5 (b:Ze) (v i:Nat) (x:Zd):Prop where
 at_:(insts b)[i]?=some x
 last:YQ x=(v:Int)
 kind:kindOf b x=1
 gF:gF b v=(i:Int)
theorem ZbU {b:Ze} (h:Va b) (v:Nat):gF b v=-1\/∃ i x,Zp5 b v i x:=by
 by_cases q:∃ (i:Nat) (x:Zd),(insts b)[i]?=some x/\YQ x=(v:Int)/\kindOf b x=1
 ·obtain ⟨i,x,h1,h2,h3⟩:=q
  exact .inr ⟨i,x,h1,h2,h3,ZyA h h1 h2 h3⟩
 ·exact .inl (ZtB λi x hx hl hk=>q ⟨i,x,hx,hl,hk⟩)
def inL (x:Zd):List Int:=(Zd.YK x).take ((Zd.YK x).length-1)
theorem Zrt {x:Zd} (h2:2<=(Zd.YK x).length) (h5:(Zd.YK x).length<=5) :
  List.take (Int.toNat (Wq ((↑(List.length (Zd.YK x)):Int)-(1:Int)))-Int.toNat (0:Int)) (List.drop (Int.toNat (0:Int)) (Zd.YK x))=inL x/\(0:Int)<=Wq ((↑(List.length (Zd.YK x)):Int)-(1:Int))/\
   Wq ((↑(List.length (Zd.YK x)):Int)-(1:Int))<=(↑(List.length (Zd.YK x)):Int):=by
 rw[Zky (by omega) (by omega)];refine ⟨?_,by omega,by omega⟩;unfold inL;simp
theorem Zg9 {x:Zd}:(inL x).length=(Zd.YK x).length-1:=by unfold inL;rw[List.length_take];omega
theorem Zos {b:Ze} (h:Va b) {x:Zd} (hx:x∈insts b) {n:Int} (hn:n∈inL x):0<=n/\n<(Yc b:Int):=by
 have:=(h.ok.1.2.2.1 x hx).2.2 n (List.mem_of_mem_take hn);unfold Zn4 at this;unfold Yc;omega
def ins (b:Ze) (v:Nat):Option (List Nat):=match (insts b)[(gF b v).toNat]? with
 | some x=>if gF b v<0 then none else some ((inL x).map Int.toNat)
 | none=>none
theorem Zb2 {b:Ze} {v:Nat} (h:gF b v=-1):ins b v=none:=by
 unfold ins;split
 ·rw[if_pos (by omega)]
 ·rfl
theorem Zan {b:Ze} {v i:Nat} {x:Zd} (h:Zp5 b v i x):ins b v=some ((inL x).map Int.toNat):=by
 unfold ins;rw[h.gF,Int.toNat_natCast,h.at_];simp only;rw[if_neg (by omega)]
theorem Ze0 {b:Ze} (h:Va b) (n:Nat):InB (Yc b) (ins b):=by
 intro v l u hv hi hu;rcases ZbU h v with q | ⟨i,x,g⟩
 ·rw[Zb2 q] at hi;cases hi
 ·rw[Zan g] at hi
  injection hi with hi
  subst hi;obtain ⟨n,hn,rfl⟩:=List.mem_map.1 hu;have:=Zos h (List.mem_of_getElem? g.at_) hn;omega
theorem ZpF {d:Zc} {y:Pl} (hy:y∈Xq d):(∃ (i j:Nat) (x:Zd) (n:Int),(Zc.Instances d)[i]?=some x/\(Zd.YK x)[j]?=some n/\y=((i:Int),(j:Int),n,decide ((j:Int)=Wq (((Zd.YK x).length:Int)-1)),()))\/
  (∃ (j:Nat) (p:Z8),(Zc.Xi d)[j]?=some p/\y=((-1:Int),(j:Int),Z8.Net p,decide (Z8.Dir p=1),())):=by
 unfold Xq at hy;rcases List.mem_append.1 hy with hy | hy
 ·obtain ⟨i,x,hi,hz⟩:=ZcI.1 hy
  unfold Zfc at hz;obtain ⟨j,n,hj,hn⟩:=ZcI.1 hz;simp only[List.mem_singleton,Nat.zero_add] at hn;exact .inl ⟨i,j,x,n,hi,hj,hn⟩
 ·obtain ⟨j,p,hj,hp⟩:=ZcI.1 hy
  simp only[Zf8,List.mem_singleton,Nat.zero_add] at hp;exact .inr ⟨j,p,hj,hp⟩
theorem Zvr {b:Ze} (h:Va b) {q:Nat} {y:Pl} (hy:(Xq (Ze.Design b))[q]?=some y):ZhH (Ze.Library b) (Ze.Design b) (q:Int)=some (y,true):=by
 obtain ⟨a1,a2,_⟩:=ZoR h.sm;have hf:=h.ok.1.few;have hpl:=ZdT hf;have hq:=(List.getElem?_eq_some_iff.1 hy).1;unfold ZhH;rw[Zga _ _ a1 a2,Bq,if_pos (Yt h.ok.1),Zat _ hf,Bq,Vx,Bq,Zky (by omega) (by omega),if_pos (Yt ⟨by omega,by omega⟩),Zo,hy];rfl
theorem Zhx {b:Ze} (h:Va b) {v:Nat} (hv:v<Yc b):J5 b (v:Int)=some (gF b v):=by
 have hf:=h.ok.1.few;have hsm:=(ZoR h.sm).2.1;obtain ⟨q,y,hq,hp,e,hu⟩:=Zyw h.ok.1 hsm hv;unfold J5;rw[Zkv _ _ hf,Bq,show XI (λx:Pl=>decide (x.2.2.1=(v:Int))&&x.2.2.2.1) (Xq (Ze.Design b))=Zyv (Ze.Design b) (v:Int) from rfl,e,Zvr h hq,Bq];unfold Zvc at hp;simp only[Bool.and_eq_true,decide_eq_true_eq] at hp;rcases ZpF (List.mem_of_getElem? hq) with ⟨i,j,x,n,hi,hj,rfl⟩ | ⟨j,p,hj,rfl⟩
 ·simp only[decide_eq_true_eq] at hp
  obtain ⟨c,hc⟩:=ZjP h (List.mem_of_getElem? hi);have hl:YQ x=(v:Int):=by
   obtain ⟨l1,_⟩:=last_at h (List.mem_of_getElem? hi);rw[<-hp.2,Zo,hj] at l1;injection l1 with l1
   rw[<-l1,hp.1]
  show (if ((i:Int))<0 then _ else _)=_;rw[if_neg (by omega)];show (atI (Zc.Instances (Ze.Design b)) (i:Int)).bind _=_;rw[Zo,hi,Bq,hc.at_,Bq];by_cases k1:Zm.Kind c=1
  ·rw[if_pos k1,ZyA h hi hl (by rw[hc.kind,k1])]
  ·rw[if_neg k1,ZtB λi2 x2 h2 l2 k2=>?_]
   have:=ZlT h hi h2 (by rw[hl,l2]);subst this;rw[hi] at h2;injection h2 with h2
   subst h2;rw[hc.kind] at k2;exact k1 k2
 ·simp only[decide_eq_true_eq] at hp
  show (if (-1:Int)<0 then _ else _)=_;rw[if_pos (by omega),ZtB λi2 x2 h2 l2 k2=>Zuc h h2 (List.mem_of_getElem? hj) hp.2 (by rw[l2,hp.1])]
theorem Zhd {b:Ze} (h:Va b) {i:Nat} {x:Zd} (hx:(insts b)[i]?=some x):Jv b (i:Int)=some (inL x):=by
 obtain ⟨c,hc⟩:=ZjP h (List.mem_of_getElem? hx);obtain ⟨e1,e2,e3⟩:=Zrt hc.two hc.few;unfold Jv;rw[Zo,hx,Bq,Zh e2,Zh e3,e1]
theorem Qt {b:Ze} (h:Va b):Yc b<=30:=h.ok.1.2.1.2.1
def gates (b:Ze):List Int:=(List.range (Yc b)).map (gF b)
theorem JI (b:Ze):(gates b).length=Yc b:=by simp[gates]
theorem Zeu (b:Ze) {v:Nat} (hv:v<Yc b):(gates b)[v]?=some (gF b v):=by
 unfold gates;rw[List.getElem?_map,List.getElem?_range hv];rfl
def Zax (b:Ze) (k:Nat):List Int:=(List.range (Yc b)).map λv=>XI (gP b v) ((insts b).take k)
theorem Zd6 (b:Ze) (k:Nat):(Zax b k).length=Yc b:=by simp[Zax]
theorem Zpi {b:Ze} (h:Va b) {k:Nat} {x:Zd} (hx:(insts b)[k]?=some x):Zax b (k+1)=if kindOf b x=1 then (Zax b k).set (YQ x).toNat (k:Int) else Zax b k:=by
 obtain ⟨_,l0,l1⟩:=last_at h (List.mem_of_getElem? hx);have e1:∀ v,XI (gP b v) ((insts b).take (k+1))=if kindOf b x=1/\v=(YQ x).toNat then (k:Int) else XI (gP b v) ((insts b).take k):=λv=>by
  rw[Zql hx];by_cases q:kindOf b x=1/\v=(YQ x).toNat
  ·rw[if_pos q]
   have hl:YQ x=(v:Int):=by rw[q.2];omega
   have hno:XI (gP b v) ((insts b).take k)=-1:=ZlD λy hy=>by
    obtain ⟨j,hj⟩:=List.mem_iff_getElem?.1 hy;rw[List.getElem?_take] at hj;split at hj
    ·rename_i hjk
     cases hb:gP b v y with
     | false=>rfl
     | true =>
      unfold gP at hb;simp only[Bool.and_eq_true,decide_eq_true_eq] at hb;have:=ZlT h hx hj (by rw[hl,hb.1]);omega
    ·cases hj
   rw[hno,if_neg (by omega),if_pos (by simp[gP,hl,q.1])]
  ·rw[if_neg q]
   by_cases q2:0<=XI (gP b v) ((insts b).take k)
   ·rw[if_pos q2]
   ·rw[if_neg q2,if_neg]
    ·unfold XI at q2 ⊢
     split
     ·rename_i i hi
      rw[hi] at q2;exact absurd (by simp) q2
     ·rfl
    ·intro hb
     unfold gP at hb;simp only[Bool.and_eq_true,decide_eq_true_eq] at hb;exact q ⟨hb.2,by omega⟩
 apply List.ext_getElem?;intro v;by_cases hv:v<Yc b
 ·have e2:∀ k,(Zax b k)[v]?=some (XI (gP b v) ((insts b).take k)):=λk=>by
   unfold Zax;rw[List.getElem?_map,List.getElem?_range hv];rfl
  rw[e2,e1];by_cases k1:kindOf b x=1
  ·rw[if_pos k1,List.getElem?_set]
   by_cases q:(YQ x).toNat=v
   ·rw[if_pos q,if_pos ⟨k1,q.symm⟩,if_pos (by rw[Zd6];omega)]
   ·rw[if_neg q,if_neg (λz=>q z.2.symm),e2]
  ·rw[if_neg k1,if_neg (λz=>k1 z.1),e2]
 ·rw[List.getElem?_eq_none (by rw[Zd6];omega)]
  symm;apply List.getElem?_eq_none;split
  ·rw[List.length_set,Zd6];omega
  ·rw[Zd6];omega
theorem Zrv {kn:List Bool} {u:Nat} (hu:u<kn.length):kn[u]?=some (isK kn u):=by
 unfold isK;rw[List.getElem?_eq_getElem hu];cases kn[u]<;>rfl
theorem Zqv {b:Ze} (h:Va b) {v i:Nat} {x:Zd} (hv:v<Yc b) (g:Zp5 b v i x) {kn:List Bool} {ord:List Int} (hk:kn.length=Yc b) (ho:ord.length<=Yc b) :
  Zn (λw=>QN (v:Int) ord kn x w.1) ((0:Int),())=some (if rdy (ins b) kn v=true then .inl (((v+1:Nat):Int),ord++[(v:Int)],List.set kn v true,()) else .inl (((v+1:Nat):Int),ord,kn,())):=by
 have hn:=Qt h;have hm:=List.mem_of_getElem? g.at_;obtain ⟨c,hc⟩:=ZjP h hm;obtain ⟨e1,e2,e3⟩:=Zrt hc.two hc.few;have hil:=Zg9 (x:=x);have h5:=hc.few;have:=Je (l:=inL x) (show Len (inL x) by unfold Len;omega) (λ_ y=>isK kn y.toNat=true) (step:=λw=>QN (v:Int) ord kn x w.1)
  (bad:=.inl (((v+1:Nat):Int),ord,kn,())) (good:=.inl (((v+1:Nat):Int),ord++[(v:Int)],List.set kn v true,()))
  (λk y hy hkl _=>by
   have hyn:=Zos h hm (List.mem_of_getElem? hy);have hat:atI kn y=some (isK kn y.toNat):=ZcU hyn.1 (Zrv (by omega));simp only[QN,e1,show (k:Int)<((inL x).length:Int) from by omega,if_true,Zo,hy,Bq,hat];constructor
   ·intro q;rw[if_pos q]
   ·intro q;rw[if_neg q,if_pos (by omega),Xj (by omega)])
  (λ_=>by
   simp only[QN,e1,Int.lt_irrefl,if_false];rw[if_neg (by omega),Zh (by simp only[List.length_cons,List.length_nil];omega),Xj (by omega),Int.toNat_natCast])
 rw[this];congr 1;have hr:Ze6 (inL x) (λ_ y=>isK kn y.toNat=true)<->rdy (ins b) kn v=true:=by
  rw[ZaW];unfold rdy;rw[Zan g];simp only[List.all_map,List.all_eq_true,Function.comp]
 by_cases q:rdy (ins b) kn v=true
 ·rw[if_pos q,X9 (hr.2 q)]
 ·rw[if_neg q,Xy (λz=>q (hr.1 z))]
theorem Zsu {b:Ze} (h:Va b) {s:List Bool×List Int} (hs:Ord (Yc b) (ins b) s) :
  Zn (λv=>Jb b (gates b) s.2 (Yc b:Int) v.1 v.2.1 v.2.2.1) ((0:Int),s.2,s.1,()) =
   some (if (Zav (ins b) s (Yc b)).2.length=s.2.length then .inr (.inr (.inr (none,false))) else .inl ((Zav (ins b) s (Yc b)).2,(Zav (ins b) s (Yc b)).1,())):=by
 have hn:=Qt h;refine Ya (Yc b) (λk v=>v=((k:Int),(Zav (ins b) s k).2,(Zav (ins b) s k).1,())) _ rfl ?_ ?_
 ·rintro k _ hk rfl
  left;have hO:=hs.pass (k:=k) (by omega);refine ⟨_,?_,rfl⟩;rw[ZcJ];generalize Zav (ins b) s k=t at hO;have hlen:=hO.len;have hfew:=hO.few;simp only[Jb,show (k:Int)<(Yc b:Int) from by omega,if_true,Zo,Zrv (show k<t.1.length by omega),Bq,Zeu b hk,Xj (show k<=1048576 by omega)];unfold stp;cases hkk:isK t.1 k with
  | true=>rfl
  | false =>
   simp only[Bool.false_eq_true,if_false,true_and];rcases ZbU h k with q | ⟨i,x,g⟩
   ·rw[q,if_pos (by omega),Zh (by simp only[List.length_cons,List.length_nil];omega),if_pos (by unfold rdy;rw[Zb2 q]),Int.toNat_natCast]
   ·obtain ⟨c,hc⟩:=ZjP h (List.mem_of_getElem? g.at_)
    obtain ⟨e1,e2,e3⟩:=Zrt hc.two hc.few;rw[g.gF,if_neg (by omega),Zo,g.at_,Bq,Zh e2,Zh e3,Zqv h hk g hlen hfew];by_cases q:rdy (ins b) t.1 k=true
    ·rw[if_pos q,if_pos q]
    ·rw[if_neg q,if_neg q]
 ·rintro _ rfl
  simp only[Jb,Int.lt_irrefl,if_false];by_cases q:(Zav (ins b) s (Yc b)).2.length=s.2.length
  ·rw[if_pos q,if_pos (by omega)]
  ·rw[if_neg q,if_neg (by omega)]
theorem Zmo {b:Ze} (h:Va b):∃ r,ZdF b=some r/\((∃ s,Ord (Yc b) (ins b) s/\s.2.length=Yc b/\r=(some (b,gates b,s.2,()),true))\/(¬Logical (Yc b) (ins b)/\r=(none,false))):=by
 have hn:=Qt h;have hw:(Ze.QZ b).length=Yc b:=h.ok.2.1;have h14:=h.ok.1.few.insts;unfold ZdF;rw[Zh (by omega),Zh (by omega),Zh (by omega),Zh (by omega),hw,Int.toNat_natCast];refine Xa (Yc b) (λk v=>v=((k:Int),List.replicate k (-1:Int)++List.replicate (Yc b-k) (0:Int),())) _ (by rw[List.replicate_zero,List.nil_append];rfl) ?_ ?_
 ·rintro k _ hk rfl
  left;refine ⟨_,?_,rfl⟩;have e:List.replicate (Yc b-k) (0:Int)=0::List.replicate (Yc b-(k+1)) 0:=by
   rw[show Yc b-k=(Yc b-(k+1))+1 by omega,List.replicate_succ]
  have hat:(List.replicate k (-1:Int)++List.replicate (Yc b-k) (0:Int))[k]?=some 0:=by
   rw[List.getElem?_append_right (by simp),e];simp
  simp only[Zbg,hw,Int.toNat_natCast,List.length_replicate,show (k:Int)<(Yc b:Int) from by omega,if_true,Zo,hat,Bq,Xj (show k<=1048576 by omega)];congr 3;rw[e,List.set_append_right _ _ (by simp),List.length_replicate,Nat.sub_self,List.set_cons_zero,List.replicate_succ',List.append_assoc];rfl
 ·rintro _ rfl
  simp only[Zbg,hw,Int.toNat_natCast,List.length_replicate,Int.lt_irrefl,if_false,Nat.sub_self,List.replicate_zero,List.append_nil];have e0:List.replicate (Yc b) (-1:Int)=Zax b 0:=by
   unfold Zax;rw[List.take_zero];apply List.ext_getElem?;intro v;rw[List.getElem?_replicate,List.getElem?_map];by_cases hv:v<Yc b
   ·rw[if_pos hv,List.getElem?_range hv];rfl
   ·rw[if_neg hv,List.getElem?_eq_none (by simpa using hv)];rfl
  rw[e0]
  suffices hq:∃ r,Zn (λv=>QO b v.1 v.2.1) ((0:Int),Zax b 0,())=some (.inr r)/\((∃ s,Ord (Yc b) (ins b) s/\s.2.length=Yc b/\r=(some (b,gates b,s.2,()),true))\/(¬Logical (Yc b) (ins b)/\r=(none,false))) by
   obtain ⟨r,e,q⟩:=hq;exact ⟨r,e,q⟩
  suffices hq:∃ r',Zn (λv=>QO b v.1 v.2.1) ((0:Int),Zax b 0,())=some r'/\∃ r,r'=.inr r/\((∃ s,Ord (Yc b) (ins b) s/\s.2.length=Yc b/\r=(some (b,gates b,s.2,()),true))\/(¬Logical (Yc b) (ins b)/\r=(none,false))) by
   obtain ⟨_,e,r,rfl,q⟩:=hq;exact ⟨r,e,q⟩
  refine Xa (insts b).length (λk v=>v=((k:Int),Zax b k,())) _ rfl ?_ ?_
  ·rintro k _ hk rfl
   left;refine ⟨_,?_,rfl⟩;have hx:(insts b)[k]?=some (insts b)[k]:=List.getElem?_eq_getElem hk;generalize (insts b)[k]=x at hx;obtain ⟨c,hc⟩:=ZjP h (List.mem_of_getElem? hx);obtain ⟨l0,l1,l2⟩:=last_at h (List.mem_of_getElem? hx);have hk14:k<=1048576:=by
    have:(insts b).length<=14:=h14;omega
   have hg:(Zax b k)[(YQ x).toNat]?=some ((Zax b k)[(YQ x).toNat]'(by rw[Zd6];omega)):=List.getElem?_eq_getElem _;simp only[QO,show (k:Int)<((Zc.Instances (Ze.Design b)).length:Int) from by have:k<(Zc.Instances (Ze.Design b)).length:=hk;omega,if_true,Zo,hx,Bq,Zpa hx hc,<-hc.kind,l0,ZcU l1 hg,Xj hk14,Zpi h hx];split
   ·rfl
   ·rfl
  ·rintro _ rfl
   have eg:Zax b (insts b).length=gates b:=by
    unfold Zax gates gF;rw[List.take_length]
   simp only[QO,Int.lt_irrefl,if_false,eg,JI,Int.toNat_natCast];rw[Zh (by omega),Zh (by omega),Zh (by omega),Zh (by omega)]
   suffices hq:∃ r',Zn (λv=>Zbf b (gates b) v.1 v.2.1) (([]:List Int),List.replicate (Yc b) false,())=some r'/\∃ r,r'=.inr (.inr r)/\((∃ s,Ord (Yc b) (ins b) s/\s.2.length=Yc b/\r=(some (b,gates b,s.2,()),true))\/(¬Logical (Yc b) (ins b)/\r=(none,false))) by
    obtain ⟨_,e,r,rfl,q⟩:=hq;refine ⟨_,?_,r,rfl,q⟩;rw[e]
   refine VR (λv=>Ord (Yc b) (ins b) (v.2.1,v.1)) (λv=>Yc b-v.1.length) _ (Ord.start _ _) ?_;rintro ⟨c0,l2',⟨⟩⟩ hO;simp only at hO;simp only[Zbf,JI,Zaz,Bq];have hfew:=hO.few;simp only at hfew;by_cases q:(c0.length:Int)<(Yc b:Int)
   ·rw[if_pos q]
    have:=Zsu h hO;simp only at this;rw[this];by_cases q2:(Zav (ins b) (l2',c0) (Yc b)).2.length=c0.length
    ·rw[if_pos q2]
     refine .inr ⟨_,rfl,_,rfl,.inr ⟨?_,rfl⟩⟩;rintro ⟨r,hr⟩;have:=progress (Ze0 h 0) hr hO (by simp only;omega);simp only at this;omega
    ·rw[if_neg q2]
     refine .inl ⟨_,rfl,hO.pass (Nat.le_refl _),?_⟩;have:=Zli (ins b) (l2',c0) (Yc b) 0 (Nat.zero_le _);rw[Zms] at this;simp only at this ⊢;omega
   ·rw[if_neg q]
    exact .inr ⟨_,rfl,_,rfl,.inl ⟨(l2',c0),hO,by simp only;omega,rfl⟩⟩
theorem ZyG {n:Nat} {c:Int} {L:List Int} (h:ZsP n c L) {u:Nat} (hu:u<n):L[u]?=some ((L[u]?).getD 0):=by
 rw[List.getElem?_eq_getElem (by rw[h.1];exact hu)];rfl
theorem ZtS {b:Ze} (h:Va b) {v i:Nat} {x:Zd} (hv:v<Yc b) (g:Zp5 b v i x) {c:Int} {s:List Int×Bool} (hL:ZsP (Yc b) c s.1) (hc:c<=1048576) :
  Zn (λw=>QB s.2 (v:Int) s.1 (inL x) w.1 w.2.1) ((0:Int),(0:Int),())=some (.inl ((ZrF (ins b) s v).2,((v+1:Nat):Int),(ZrF (ins b) s v).1,())):=by
 have hn:=Qt h;have hm:=List.mem_of_getElem? g.at_;obtain ⟨cc,hcc⟩:=ZjP h hm;have hil:=Zg9 (x:=x);have h5:=hcc.few;have key:=YO (l:=inL x) (λk=>(ZaT s.1 (((inL x).take k).map Int.toNat),(k:Int),())) (step:=λw=>QB s.2 (v:Int) s.1 (inL x) w.1 w.2.1) (good:=.inl ((ZrF (ins b) s v).2,((v+1:Nat):Int),(ZrF (ins b) s v).1,()))
  (λk y hy hk=>by
   have hyn:=Zos h hm (List.mem_of_getElem? hy);simp only[QB,show (k:Int)<((inL x).length:Int) from by omega,if_true,Zo,hy,Bq,ZcU hyn.1 (ZyG hL (show y.toNat<Yc b by omega)),Xj (show k<=1048576 by omega)];rw[Yp hy,List.map_append];unfold ZaT;rw[List.foldl_append];rfl)
  (by
   have hat:atI s.1 (v:Int)=some ((s.1[v]?).getD 0):=by rw[Zo];exact ZyG hL hv
   simp only[QB,Int.lt_irrefl,if_false,List.take_length,hat,Bq,Xj (show v<=1048576 by omega)];have hm1:=Zmm s.1 ((inL x).map Int.toNat);have hm2:=Zpz s.1 ((inL x).map Int.toNat) c (by have:=hL.2 0;omega) λu _=>(hL.2 u).2;rw[XG (by omega) (by omega)];unfold ZrF;rw[Zan g];simp only;by_cases q:(s.1[v]?).getD 0=ZaT s.1 ((inL x).map Int.toNat)+1
   ·rw[if_pos q,if_neg (λz=>z q)]
   ·rw[if_neg q,if_pos q,Int.toNat_natCast])
 exact key
theorem Zqt {b:Ze} (h:Va b) (r:Nat) (hr:r<=31) {L:List Int} (hL:ZsP (Yc b) ((r*Yc b:Nat):Int) L) :
  Zn (λv=>Vy b (r:Int) v.1 v.2.1 v.2.2.1) (false,(0:Int),L,())=some (if (Zbl (ins b) L (Yc b)).2=true then .inl (((r+1:Nat):Int),(Zbl (ins b) L (Yc b)).1,()) else .inr ((Zbl (ins b) L (Yc b)).1,true)):=by
 have hn:=Qt h;have hrn:r*Yc b<=31*30:=Nat.mul_le_mul hr hn;refine Ya (Yc b) (λk v=>v=((Zbl (ins b) L k).2,(k:Int),(Zbl (ins b) L k).1,())) _ rfl ?_ ?_
 ·rintro k _ hk rfl
  left;refine ⟨_,?_,rfl⟩;have hLk:=hL.pass (ins:=ins b) (k:=k) (by omega);rw[ZcH];generalize Zbl (ins b) L k=t at hLk;simp only[Vy,show (k:Int)<((Zc.YK (Ze.Design b)).length:Int) from by show (k:Int)<(Yc b:Int);omega,if_true,Zhx h hk,Bq];rcases ZbU h k with q | ⟨i,x,g⟩
  ·rw[q,if_pos (by omega),Xj (by omega)]
   unfold ZrF;rw[Zb2 q]
  ·rw[g.gF,if_neg (by omega),Zhd h g.at_,Bq,ZtS h hk g hLk (by omega)]
 ·rintro _ rfl
  simp only[Vy,show ¬(Yc b:Int)<((Zc.YK (Ze.Design b)).length:Int) from by show ¬(Yc b:Int)<(Yc b:Int);omega,if_false,Xj (show r<=1048576 by omega)];split
  ·rfl
  ·rfl
theorem Zpt {b:Ze} (h:Va b):∃ L,Zdc b=some (L,tr (Logical (Yc b) (ins b))):=by
 have hn:=Qt h;unfold Zdc;rw[show (Zc.YK (Ze.Design b)).length=Yc b from rfl,Zh (by omega),Zh (by omega),Zh (by omega),Zh (by omega),Int.toNat_natCast]
 suffices hq:∃ r,Zn (λv=>Vz b v.1 v.2.1) ((0:Int),List.replicate (Yc b) (0:Int),())=some r/\∃ L,r=(L,tr (Logical (Yc b) (ins b))) by
  obtain ⟨_,e,L,rfl⟩:=hq;exact ⟨L,e⟩
 refine Xa (Yc b+1) (λk v=>v=((k:Int),ZaD (ins b) (Yc b) k,())/\∀ j,j<k->(Zbl (ins b) (ZaD (ins b) (Yc b) j) (Yc b)).2=true) _ ⟨rfl,λj hj=>by omega⟩ ?_ ?_
 ·rintro k _ hk ⟨rfl,hch⟩
  have hL:=ZnO (ins b) (Yc b) k;simp only[Vz,show (k:Int)<=((Zc.YK (Ze.Design b)).length:Int) from by show (k:Int)<=(Yc b:Int);omega,if_true];rw[Zqt h k (by omega) hL];cases q:(Zbl (ins b) (ZaD (ins b) (Yc b) k) (Yc b)).2 with
  | true =>
   refine .inl ⟨_,rfl,rfl,λj hj=>?_⟩;by_cases e:j=k
   ·subst e;exact q
   ·exact hch j (by omega)
  | false =>
   exact .inr ⟨_,rfl,_,congrArg (Prod.mk _) (Yt (p:=Logical (Yc b) (ins b)) ⟨_,Zuv q λu=>(hL.2 u).1⟩).symm⟩
 ·rintro _ ⟨rfl,hch⟩
  simp only[Vz];rw[if_neg (by show ¬((Yc b+1:Nat):Int)<=(Yc b:Int);omega)];refine ⟨_,rfl,[],?_⟩;rw[Yl];rintro ⟨r,hr⟩;obtain ⟨r0,_,hc⟩:=Zmo h;rcases hc with ⟨s,hs,hsn,_⟩ | ⟨hno,_⟩
  ·obtain ⟨_,r2,hr2,hb⟩:=hs.rank hsn
   have:=ZsH hr2 (Ze0 h 0) λv hv=>(hb v hv).1;rw[hch (Yc b) (by omega)] at this;cases this
  ·exact hno ⟨r,hr⟩
theorem Zo3 (b:Ze) (hb:sm Yz b):Zda b=some (tr (Zdv b/\Logical (Yc b) (ins b))):=by
 unfold Zda;rw[Zej b hb,Bq];by_cases q:Zdv b
 ·obtain ⟨L,e⟩:=Zpt ⟨q,hb⟩
  rw[if_pos (Yt q),e,Bq];congr 1;exact Zdl ⟨λz=>⟨q,z⟩,λz=>z.2⟩
 ·rw[if_neg (λz=>q ((Xn _).1 z)),Yl (λz=>q z.1)]
noncomputable def Zkl (b:Ze):Int:=if tr (Zdv b)=true then (if tr (Logical (Yc b) (ins b))=true then 0 else 7) else 1
theorem ZnK (b:Ze) (hb:sm Yz b):Zds b=some (Zkl b):=by
 unfold Zds Zkl;rw[Zej b hb,Bq,Zo3 b hb,Bq];by_cases q:Zdv b
 ·rw[if_pos (Yt q),if_pos (Yt q)]
  by_cases q2:Logical (Yc b) (ins b)
  ·rw[if_pos (Yt ⟨q,q2⟩),if_pos (Yt q2)]
  ·rw[if_neg (λz=>q2 ((Xn _).1 z).2),if_neg (λz=>q2 ((Xn _).1 z))]
 ·rw[if_neg (λz=>q ((Xn _).1 z)),if_neg (λz=>q ((Xn _).1 z))]
theorem ZnL {b:Ze}:Zkl b=0<->Zdv b/\Logical (Yc b) (ins b):=by
 unfold Zkl;by_cases q:Zdv b
 ·rw[if_pos (Yt q)]
  by_cases q2:Logical (Yc b) (ins b)
  ·rw[if_pos (Yt q2)];exact ⟨λ_=>⟨q,q2⟩,λ_=>rfl⟩
  ·rw[if_neg (λz=>q2 ((Xn _).1 z))];exact ⟨λz=>absurd z (by omega),λz=>absurd z.2 q2⟩
 ·rw[if_neg (λz=>q ((Xn _).1 z))];exact ⟨λz=>absurd z (by omega),λz=>absurd z.1 q⟩
structure Lgc (b:Ze) (s:List Bool×List Int):Prop where
 blk:Va b
 ord:Ord (Yc b) (ins b) s
 all:s.2.length=Yc b
theorem Zst (b:Ze) (hb:sm Yz b) (nets:List Int) (hl:nets.length<=1048576) :
  (Zkl b≠0/\VW b nets=some (none,Zkl b))\/∃ s,Lgc b s/\Zkl b=0/\(Ze7 nets 0 ((Yc b:Int)-1)/\VW b nets=some (some (b,gates b,s.2,()),0)\/¬Ze7 nets 0 ((Yc b:Int)-1)/\VW b nets=some (none,2)):=by
 unfold VW;rw[ZlM b hb,Bq];by_cases q:Zdv b
 ·rw[if_pos (Yt q)]
  have h:Va b:=⟨q,hb⟩;have hn:=Qt h;obtain ⟨r,e,hc⟩:=Zmo h;rw[e,Bq];rcases hc with ⟨s,hs,hsn,rfl⟩ | ⟨hno,rfl⟩
  ·right
   refine ⟨s,⟨h,hs,hsn⟩,ZnL.2 ⟨q,?_⟩,?_⟩
   ·obtain ⟨_,r,hr,_⟩:=hs.rank hsn
    exact ⟨r,hr⟩
   ·simp only[if_true,Bq]
    rw[show Y3 (YA.gate (b,gates b,s.2,()))=some ((gates b).length:Int) from rfl,Bq,JI,XG (by omega) (by omega),Zeq _ _ _ hl,Bq];by_cases q2:Ze7 nets 0 ((Yc b:Int)-1)
    ·exact .inl ⟨q2,by rw[if_pos (Yt q2)]⟩
    ·exact .inr ⟨q2,by rw[if_neg (λz=>q2 ((Xn _).1 z))]⟩
  ·left
   have e2:Zkl b=7:=by
    unfold Zkl;rw[if_pos (Yt q),if_neg (λz=>hno ((Xn _).1 z))]
   rw[e2];exact ⟨by omega,rfl⟩
 ·left
  have e2:Zkl b=1:=by
   unfold Zkl;rw[if_neg (λz=>q ((Xn _).1 z))]
  rw[if_neg (λz=>q ((Xn _).1 z)),e2];exact ⟨by omega,rfl⟩
def srcs (b:Ze):List Int:=cat ZnP 0 ((gates b).map λg=>decide (g<0))
theorem Zr0 (b:Ze):(srcs b).Pairwise (·<·):=(ZnM _ 0).1
theorem Zr1 (b:Ze):(srcs b).length<=Yc b:=by
 have:=Zlj ((gates b).map λg=>decide (g<0)) 0;rw[List.length_map,JI] at this;exact this
theorem ZoE {b:Ze} (h:Va b) {x:Int}:x∈srcs b<->∃ v:Nat,x=(v:Int)/\v<Yc b/\ins b v=none:=by
 unfold srcs;rw[mem_listed];constructor
 ·rintro ⟨k,hk,e⟩
  rw[List.getElem?_map] at hk;have hkn:k<Yc b:=by
   by_cases q:k<Yc b
   ·exact q
   ·rw[List.getElem?_eq_none (by rw[JI];omega)] at hk;cases hk
  rw[Zeu b hkn] at hk;simp only[Option.map_some,Option.some.injEq,decide_eq_true_eq] at hk;refine ⟨k,by rw[e];congr 1;omega,hkn,?_⟩;rcases ZbU h k with q | ⟨i,y,g⟩
  ·exact Zb2 q
  ·rw[g.gF] at hk;omega
 ·rintro ⟨v,e,hv,hi⟩
  refine ⟨v,?_,by rw[e];congr 1;omega⟩;rw[List.getElem?_map,Zeu b hv];simp only[Option.map_some,Option.some.injEq,decide_eq_true_eq];rcases ZbU h v with q | ⟨i,y,g⟩
  ·omega
  ·rw[Zan g] at hi;cases hi
theorem ZmG {b:Ze} (h:Va b) {ρ:Type} {step:List Int×Int×Unit->Option ((List Int×Int×Unit) ⊕ ρ)} {good:ρ}
  (hs:∀ (k:Nat) (out:List Int),k<Yc b->step (out,(k:Int),())=if gF b k<0 then (Zu ((out.length+[(k:Int)].length)*8<=140737488355328) (some (.inl (out++[(k:Int)],((k+1:Nat):Int),())))) else some (.inl (out,((k+1:Nat):Int),())))
  (hx:step (srcs b,(Yc b:Int),())=some (.inr good)):Zn step (([]:List Int),(0:Int),())=some good:=by
 have hn:=Qt h;refine Jp (l:=(gates b).map λg=>decide (g<0)) ZnP [] (λk x hk hkl=>?_) ?_
 ·rw[List.length_map,JI] at hkl
  rw[List.getElem?_map,Zeu b hkl] at hk;simp only[Option.map_some,Option.some.injEq] at hk;subst hk;have hl:=Zlj (((gates b).map λg=>decide (g<0)).take k) 0;rw[List.length_take] at hl;rw[List.nil_append,hs k _ hkl];unfold ZnP at *;by_cases q:gF b k<0
  ·rw[if_pos q,Zh (by simp only[List.length_cons,List.length_nil];omega),if_pos (decide_eq_true q)]
  ·rw[if_neg q,if_neg (by simpa using q),List.append_nil]
 ·rw[List.length_map,JI,List.nil_append]
  exact hx
theorem Zg8 {b:Ze} (h:Va b) (ord:List Int):Vi (b,gates b,ord,())=some (srcs b):=by
 have hn:=Qt h;unfold Vi;have e:YA.gate (b,gates b,ord,())=gates b:=rfl;refine ZmG h (λk out hk=>?_) ?_
 ·simp only[VL,e,JI,show (k:Int)<(Yc b:Int) from by omega,if_true,Zo,Zeu b hk,Bq,Xj (show k<=1048576 by omega)]
 ·simp only[VL,e,JI,Int.lt_irrefl,if_false]
theorem Zjb {b:Ze} (h:Va b):J6 b=some (srcs b):=by
 have hn:=Qt h;unfold J6;refine ZmG h (λk out hk=>?_) ?_
 ·simp only[J7,show (k:Int)<((Zc.YK (Ze.Design b)).length:Int) from by show (k:Int)<(Yc b:Int);omega,if_true,Zhx h hk,Bq,Xj (show k<=1048576 by omega)]
 ·simp only[J7,show ¬(Yc b:Int)<((Zc.YK (Ze.Design b)).length:Int) from by show ¬(Yc b:Int)<(Yc b:Int);omega,if_false]
theorem ZtC (a b:Int) (h1:0<=a):Int.gcd b (a.tmod b)=Int.gcd a b:=by
 rw[Int.tmod_eq_emod_of_nonneg h1,Int.gcd_comm,Int.emod_def];simp
theorem Zpj {step:Int×Int×Unit->Option ((Int×Int×Unit) ⊕ Int)} (hs:∀ a b,step (a,b,())=if b=0 then some (.inr a) else Zu (b≠0) (some (.inl (b,Int.tmod a b,())))) {a b:Int} (h1:0<=a) (h2:0<=b):Zn step (a,b,())=some (Int.gcd a b:Int):=by
 refine ZmY (λv=>0<=v.1/\0<=v.2.1/\Int.gcd v.1 v.2.1=Int.gcd a b) (λv=>v.2.1.toNat) _ ⟨h1,h2,rfl⟩ ?_;rintro ⟨x,y,⟨⟩⟩ ⟨g1,g2,g3⟩;simp only at g1 g2 g3;rw[hs];split
 ·rename_i hs
  subst hs;right;rw[<-g3,Int.gcd_zero_right];congr 2;omega
 ·rename_i hs
  rw[Zh hs];have b1:=Int.tmod_nonneg y g1;have b2:=Int.tmod_lt_of_pos x (show 0<y by omega);exact .inl ⟨_,rfl,⟨g2,b1,by rw[<-g3];exact ZtC x y g1⟩,by dsimp only;omega⟩
theorem Zpm {a b:Int} (h1:0<=a) (h2:0<=b):Zop a b=some (Int.gcd a b:Int):=Zpj (λa b=>rfl) h1 h2
theorem ZmK {a b:Int} (h1:0<=a) (h2:0<=b):ZiO a b=some (Int.gcd a b:Int):=Zpj (λa b=>rfl) h1 h2
def Zo2 (f:ZH):Prop:=(1<=ZH.Den f/\ZH.Den f<=1000000)/\(0<=ZH.Num f/\ZH.Num f<=ZH.Den f)/\Int.gcd (ZH.Num f) (ZH.Den f)=1
theorem Zi8 (f:ZH):Zb0 f=some (tr (Zo2 f)):=by
 unfold Zb0;refine Xk (Jo _ _ _) (λq1=>Xk (Jo _ _ _) (λq2=>?_));rw[Zpm q2.1 (by omega),Bq];exact Zdz (by rw[decide_eq_true_eq];omega)
theorem ZjJ (f:ZH):Zci f=some (tr (Zo2 f)):=by
 unfold Zci;refine Xk (Vx _ _ _) (λq1=>Xk (Vx _ _ _) (λq2=>?_));rw[ZmK (by omega) q2.1,Bq,Int.gcd_comm];exact Zdz (by rw[decide_eq_true_eq];omega)
def Zp4 (a:Zg):Prop:=Zo2 (Zg.High a)/\ZH.Den (Zg.High a)<=10/\(0<=Zg.Zaw a/\Zg.Zaw a<=1000)
theorem Zfz (a:Zg):YW a=some (!tr (Zp4 a)):=by
 unfold YW;rw[Zi8,Bq];by_cases q:Zo2 (Zg.High a)
 ·rw[if_pos (Yt q)]
  by_cases q2:(10:Int)<ZH.Den (Zg.High a)
  ·rw[if_pos q2,Yl (λz=>by have:=z.2.1;omega)];rfl
  ·rw[if_neg q2,Jo,Bq]
   congr 2;exact Zdl ⟨λz=>⟨q,by omega,z⟩,λz=>z.2.2⟩
 ·rw[if_neg (λz=>q ((Xn _).1 z)),Yl (λz=>q z.1)];rfl
def Zct (b:Ze) (list:List Zg):Prop:=list.length=(srcs b).length/\∀ a∈list,Zp4 a
theorem ZhL {b:Ze} (h:Va b) (ord:List Int) (list:List Zg) (hl:list.length<=1048576):QE (b,gates b,ord,()) list=some (tr (Zct b list)):=by
 unfold QE;rw[Zg8 h,Bq];refine Zd5 (XE (Q:=∀ a∈list,Zp4 a) (λq=>?_)) ?_
 ·rw[Y1 (by unfold Len;omega) (λa=>!tr (Zp4 a)) (λa _=>Zfz a),Bq]
  refine Zdz ?_;rw[Bool.not_eq_true',List.any_eq_false];constructor
  ·intro hh a ha
   have:=hh a ha;simp only[Bool.not_eq_true',Bool.not_eq_false] at this;exact (Xn _).1 this
  ·intro hh a ha
   simp[Yt (hh a ha)]
 ·unfold Zct
  rw[show (list.length:Int)=((srcs b).length:Int)<->list.length=(srcs b).length from by omega]
theorem ZhQ (b:Ze) (hb:sm Yz b) (list:List Zg) (hl:list.length<=1048576):Zap b list=some (tr (Zkl b=0/\Zct b list)):=by
 unfold Zap;rw[ZnK b hb,Bq];by_cases q:Zkl b=0
 ·have h:Va b:=⟨(ZnL.1 q).1,hb⟩
  rw[if_pos q,Zjb h,Bq];refine Zd5 (XE (Q:=∀ a∈list,Zp4 a) (λq2=>?_)) ?_
  ·rw[Je (l:=list) (show Len list by unfold Len;omega) (λ_ a=>Zp4 a) (bad:=false) (good:=true)
    (λk a ha hk _=>by
     simp only[Jf,show (k:Int)<(list.length:Int) from by omega,if_true,Zo,ha,Bq,ZjJ];by_cases q1:Zo2 (Zg.High a)
     ·rw[if_pos (Yt q1)]
      by_cases q2:(10:Int)<ZH.Den (Zg.High a)
      ·rw[if_pos q2]
       exact ⟨λz=>by have:=z.2.1;omega,λ_=>rfl⟩
      ·rw[if_neg q2,Vx,Bq]
       constructor
       ·intro z;rw[if_pos (Yt z.2.2)]
       ·intro z;rw[if_neg (λw=>z ⟨q1,by omega,(Xn _).1 w⟩)]
     ·rw[if_neg (λz=>q1 ((Xn _).1 z))]
      exact ⟨λz=>absurd z.1 q1,λ_=>rfl⟩)
    (λ_=>by simp only[Jf,Int.lt_irrefl,if_false]),ZmA]
   exact congrArg some (Zdl ZaW)
  ·unfold Zct
   rw[show (list.length:Int)=((srcs b).length:Int)<->list.length=(srcs b).length from by omega];exact ⟨λz=>⟨q,z⟩,λz=>z.2⟩
 ·rw[if_neg q,Yl (λz=>q z.1)]
theorem ZlW (x y:Int):keq (.int .i64) x y=decide (x=y):=by
 by_cases h:x=y
 ·subst h;simp[keq]
 ·simp[keq,h]
theorem ZrI {v:Ty} (x:Int) (y:v.den):∀ m:List (Int×v.den),ZgK (.int .i64) v (ZnR (.int .i64) v m x y) x=some y
 | []=>by simp[ZnR,ZgK,ZlW]
 | d::m=>by
  unfold ZnR;split
  ·simp[ZgK,ZlW]
  ·rename_i h
   unfold ZgK;rw[if_neg h,ZrI x y m]
theorem Zml {v:Ty} {x x':Int} (hx:x'≠x) (y:v.den):∀ m:List (Int×v.den),ZgK (.int .i64) v (ZnR (.int .i64) v m x y) x'=ZgK (.int .i64) v m x'
 | []=>by simp[ZnR,ZgK,ZlW,hx]
 | d::m=>by
  unfold ZnR;split
  ·rename_i h
   rw[ZlW,decide_eq_true_eq] at h;simp only[ZgK,ZlW];rw[<-h,if_neg (by simpa using hx),if_neg (by simpa using hx)]
  ·unfold ZgK
   rw[Zml hx y m]
def Zp2 {v:Ty} (keys:List Int) (vals:List v.den):Nat->List (Int×v.den)
 | 0=>[]
 | k+1=>match keys[k]?,vals[k]? with
  | some x,some y=>ZnR (.int .i64) v (Zp2 keys vals k) x y
  | _,_=>Zp2 keys vals k
theorem Zov {v:Ty} {keys:List Int} {vals:List v.den} (hk:keys.Pairwise (·<·)) (hl:vals.length=keys.length):∀ (k:Nat),k<=keys.length->∀ (j:Nat) (x:Int),keys[j]?=some x->ZgK (.int .i64) v (Zp2 keys vals k) x=if j<k then vals[j]? else none
 | 0,_,j,x,hx=>by rw[if_neg (by omega)];rfl
 | k+1,hkl,j,x,hx=>by
  have hx2:keys[k]?=some keys[k]:=List.getElem?_eq_getElem (by omega);have hy2:vals[k]?=some vals[k]:=List.getElem?_eq_getElem (by omega);unfold Zp2;rw[hx2,hy2];simp only;have hj:=(List.getElem?_eq_some_iff.1 hx);by_cases q:j=k
  ·subst q
   rw[hx2] at hx;injection hx with hx
   rw[<-hx,ZrI,if_pos (by omega),hy2]
  ·have hne:x≠keys[k]:=by
    obtain ⟨hj1,hj2⟩:=hj;rw[<-hj2];rcases Nat.lt_or_gt_of_ne q with w | w
    ·have:=List.pairwise_iff_getElem.1 hk j k hj1 (by omega) w;omega
    ·have:=List.pairwise_iff_getElem.1 hk k j (by omega) hj1 w;omega
   rw[Zml hne,Zov hk hl k (by omega) j x hx];by_cases w:j<k
   ·rw[if_pos w,if_pos (by omega)]
   ·rw[if_neg w,if_neg (by omega)]
theorem ZlX {v:Ty} {keys:List Int} {vals:List v.den} {x:Int} (hx:x ∉ keys):∀ k,ZgK (.int .i64) v (Zp2 keys vals k) x=none
 | 0=>rfl
 | k+1=>by
  unfold Zp2;split
  ·rename_i y z h1 h2
   rw[Zml (λe=>hx (by rw[e];exact List.mem_of_getElem? h1)),ZlX hx k]
  ·exact ZlX hx k
theorem Zwr {keys:List Int} (hk:keys.Pairwise (·<·)) {j:Nat} {x:Int} (hx:keys[j]?=some x):XI (λy=>decide (y=x)) keys=(j:Int) :=
 ZgV hx (by simp) λi y hi hy=>by
  obtain ⟨h1,h2⟩:=List.getElem?_eq_some_iff.1 hx;obtain ⟨h3,h4⟩:=List.getElem?_eq_some_iff.1 hy;have:=List.pairwise_iff_getElem.1 hk i j h3 h1 hi;simp only[decide_eq_false_iff_not];omega
def ZB3:Zg:=(((0:Int),(0:Int),()),(0:Int),())
def JG (b:Ze) (list:List Zg) (x:Int):Zg:=(list[(XI (λy=>decide (y=x)) (srcs b)).toNat]?).getD ZB3
abbrev chm (b:Ze) (list:List Zg):List (Int×ZH×Int×Unit):=Zp2 (v:=Zy) (srcs b) list (srcs b).length
abbrev chn (b:Ze) (s:List Bool×List Int) (list:List Zg):YI:=((b,gates b,s.2,()),chm b list,())
theorem Zla {b:Ze} {list:List Zg} (ha:Zct b list) {x:Int} (hx:x∈srcs b):∃ j:Nat,(srcs b)[j]?=some x/\list[j]?=some (JG b list x)/\Zp4 (JG b list x)/\XI (λy=>decide (y=x)) (srcs b)=(j:Int):=by
 obtain ⟨j,hj⟩:=List.mem_iff_getElem?.1 hx;have hl:=(List.getElem?_eq_some_iff.1 hj).1;have e:=Zwr (Zr0 b) hj;have h2:list[j]?=some (list[j]'(by rw[ha.1];exact hl)):=List.getElem?_eq_getElem _;have h3:JG b list x=list[j]'(by rw[ha.1];exact hl):=by
  unfold JG;rw[e,Int.toNat_natCast,h2];rfl
 exact ⟨j,hj,by rw[h3];exact h2,by rw[h3];exact ha.2 _ (List.getElem_mem _),e⟩
theorem Zn9 {b:Ze} {list:List Zg} (ha:Zct b list) {x:Int} (hx:x∈srcs b):ZgK (.int .i64) Zy (chm b list) x=some (JG b list x):=by
 obtain ⟨j,h1,h2,_,_⟩:=Zla ha hx;have hl:=(List.getElem?_eq_some_iff.1 h1).1;rw[Zov (v:=Zy) (Zr0 b) ha.1 _ (Nat.le_refl _) j x h1,if_pos hl,h2]
theorem Zpb {b:Ze} {s:List Bool×List Int} (h:Lgc b s) (list:List Zg) (hl:list.length<=1048576) {nets:List Int} (he:VW b nets=some (some (b,gates b,s.2,()),0)) :
  ZcZ b list nets=some (if tr (Zct b list)=true then (some (chn b s list),0) else (none,5)):=by
 have hn:=Qt h.blk;have hs:=Zr1 b;unfold ZcZ;rw[he,Bq,if_pos rfl,Bq,ZhL h.blk _ _ hl,Bq];by_cases q:Zct b list
 ·rw[if_pos (Yt q),if_pos (Yt q),Zg8 h.blk,Bq]
  refine YO (l:=srcs b) (λk=>((k:Int),Zp2 (v:=Zy) (srcs b) list k,())) (λk x hx hk=>?_) ?_
  ·have hy:list[k]?=some (list[k]'(by rw[q.1];exact hk)):=List.getElem?_eq_getElem _
   simp only[Zay,show (k:Int)<((srcs b).length:Int) from by omega,if_true,Zo,hx,hy,Bq,Xj (show k<=1048576 by omega)];have e:Zp2 (v:=Zy) (srcs b) list (k+1)=ZnR (.int .i64) Zy (Zp2 (v:=Zy) (srcs b) list k) x (list[k]'(by rw[q.1];exact hk)):=by
    conv=>lhs;unfold Zp2
    rw[hx,hy]
   rw[e];rfl
  ·simp only[Zay,Int.lt_irrefl,if_false]
 ·rw[if_neg (λz=>q ((Xn _).1 z)),if_neg (λz=>q ((Xn _).1 z))]
theorem ZuC {n:Nat} {ins:Nat->Option (List Nat)} (hb:InB n ins) {v:Nat} (hv:v<n) (h:ins v=none):Zdg n ins v=[(v:Int)] :=
 Zqp (Zlp n ins v) (by simp) λx=>by
  rw[ZfJ hb hv];constructor
  ·rintro ⟨s,e,hs⟩
   rw[(ZoT h).1 hs] at e;simp[e]
  ·intro hx
   exact ⟨v,by simpa using hx,.base h⟩
theorem ZiQ {b:Ze} (h:Va b) {v:Nat} (hv:v<Yc b) {x:Int} (hx:x∈Zdg (Yc b) (ins b) v):x∈srcs b:=by
 obtain ⟨s,e,hs⟩:=(ZfJ (Ze0 h 0) hv).1 hx;exact (ZoE h).2 ⟨s,e,Zut (Ze0 h 0) hs hv,ZyR hs⟩
theorem Zq8 {l:List Nat} {F:Nat->List Int} {x:Int} {m:Nat}:x∈cat (λ_ u=>F u) m l<->∃ u∈l,x∈F u:=by
 rw[ZcI];constructor
 ·rintro ⟨k,u,hu,hx⟩
  exact ⟨u,List.mem_of_getElem? hu,hx⟩
 ·rintro ⟨u,hu,hx⟩
  obtain ⟨k,hk⟩:=List.mem_iff_getElem?.1 hu;exact ⟨k,u,hk,hx⟩
theorem Zor {b:Ze} (h:Va b) {x:Zd} (hx:x∈insts b) {k:Nat} {y:Int} (hy:(inL x)[k]?=some y):∃ u:Nat,y=(u:Int)/\u<Yc b/\((inL x).map Int.toNat)[k]?=some u:=by
 have hyn:=Zos h hx (List.mem_of_getElem? hy);refine ⟨y.toNat,by omega,by omega,?_⟩;rw[List.getElem?_map,hy];rfl
theorem Zh2 {b:Ze} (h:Va b) {v i:Nat} {x:Zd} (hv:v<Yc b) (g:Zp5 b v i x) (ord:List Int):VK (b,gates b,ord,()) (v:Int)=some (inL x):=by
 obtain ⟨c,hc⟩:=ZjP h (List.mem_of_getElem? g.at_);obtain ⟨e1,e2,e3⟩:=Zrt hc.two hc.few;unfold VK;rw[show YA.gate (b,gates b,ord,())=gates b from rfl,Zo,Zeu b hv,Bq,g.gF,Zo,show Zc.Instances (Ze.Design (YA.Block (b,gates b,ord,())))=insts b from rfl,g.at_,Bq,Zh e2,Zh e3,e1]
theorem ZmP {b:Ze} {s:List Bool×List Int} (h:Lgc b s):∃ out,QM (b,gates b,s.2,())=some out/\out.length=Yc b/\∀ v,v<Yc b->out[v]?=some (Zdg (Yc b) (ins b) v):=by
 have hn:=Qt h.blk;have hB:=Ze0 h.blk 0;obtain ⟨hall,r,hr,_⟩:=h.ord.rank h.all;have hne:∀ v l,v<Yc b->ins b v=some l->l≠[]:=λv l hv hi=>by
  rcases ZbU h.blk v with q | ⟨i,x,g⟩
  ·rw[Zb2 q] at hi;cases hi
  ·rw[Zan g] at hi
   injection hi with hi
   obtain ⟨c,hc⟩:=ZjP h.blk (List.mem_of_getElem? g.at_);have h2:=hc.two;have:=Zg9 (x:=x);rw[<-hi];intro e;have:=congrArg List.length e;rw[List.length_map,List.length_nil] at this;omega
 unfold QM;rw[show YA.gate (b,gates b,s.2,())=gates b from rfl,JI,Zh (by omega),Zh (by omega),Zh (by omega),Zh (by omega),Int.toNat_natCast];obtain ⟨out,e,h1,h2⟩:=along h.ord (α:=List Int) (λo k=>(k,o,())) (λv=>Zdg (Yc b) (ins b) v) (step:=λv=>Qd (b,gates b,s.2,()) v.1 v.2.1) (good:=λo=>o) (z:=List.replicate (Yc b) []) (by simp) (by omega)
  (λk v out hk hkl hkm hv ho hin=>by
   have hord:YA.order (b,gates b,s.2,())=s.2:=rfl;have hgate:YA.gate (b,gates b,s.2,())=gates b:=rfl;have hov:out[v]?=some (out[v]'(by omega)):=List.getElem?_eq_getElem _;simp only[Qd,hord,hgate,show (k:Int)<(s.2.length:Int) from by omega,if_true,Zo,hk,Bq,Zeu b hv,hov,Xj hkm,Int.toNat_natCast];rcases ZbU h.blk v with q | ⟨i,x,g⟩
   ·rw[q,if_pos (by omega),ZuC hB hv (Zb2 q)]
   ·have hx:=List.mem_of_getElem? g.at_
    obtain ⟨c,hc⟩:=ZjP h.blk hx;have h5:=hc.few;have hil:=Zg9 (x:=x);rw[g.gF,if_neg (by omega),Zh2 h.blk hv g,Bq];have hi:=Zan g;have hsl:∀ k,(cat (λ_ u=>Zdg (Yc b) (ins b) u) 0 (((inL x).map Int.toNat).take k)).length<=150:=λk=>by
     refine Nat.le_trans (Zfp (c:=30) (λ_ u _=>by have:=Zlq (Yc b) (ins b) u;omega)) ?_;rw[List.length_take,List.length_map];omega
    have:=YO (l:=inL x) (λj=>(cat (λ_ u=>Zdg (Yc b) (ins b) u) 0 (((inL x).map Int.toNat).take j),(j:Int),out,())) (step:=λw=>Qc (k:Int) (v:Int) (inL x) w.1 w.2.1 w.2.2.1)
     (good:=.inl (((k+1:Nat):Int),out.set v (Zdg (Yc b) (ins b) v),()))
     (λj y hy hj=>by
      obtain ⟨u,rfl,hu,hum⟩:=Zor h.blk hx hy;have hou:=hin _ hi u (List.mem_of_getElem? hum);simp only[Qc,show (j:Int)<((inL x).length:Int) from by omega,if_true,Zo,hy,hou,Bq,Xj (show j<=1048576 by omega),Int.toNat_natCast];have hl1:=hsl j;have hl2:=Zlq (Yc b) (ins b) u;rw[Zh (by omega),Zq9 hum,show out.set u (Zdg (Yc b) (ins b) u)=out from by
       apply List.ext_getElem?;intro w;rw[List.getElem?_set];split
       ·rename_i e;subst e;rw[if_pos (by omega),hou]
       ·rfl])
     (by
      have hfl:((inL x).map Int.toNat).take (inL x).length=(inL x).map Int.toNat:=List.take_of_length_le (by rw[List.length_map];omega);have hl1:=hsl (inL x).length;rw[hfl] at hl1 ⊢;have hpos:0<(cat (λ_ u=>Zdg (Yc b) (ins b) u) 0 ((inL x).map Int.toNat)).length:=by
       obtain ⟨s0,hs0⟩:=ZyQ hB hr hne hv;obtain ⟨u,hu,hsu⟩:=(Zlm hi).1 hs0;exact List.length_pos_of_mem (Zq8.2 ⟨u,hu,(ZfJ hB (hB v _ u hv hi hu)).2 ⟨s0,rfl,hsu⟩⟩)
      simp only[Qc,Int.lt_irrefl,if_false,Xj hkm,Zo,hov,Int.toNat_natCast];have e1:Zxq (cat (λ_ u=>Zdg (Yc b) (ins b) u) 0 ((inL x).map Int.toNat))=some (srt (cat (λ_ u=>Zdg (Yc b) (ins b) u) 0 ((inL x).map Int.toNat))):=by
       unfold Zxq;rw[if_pos (by omega)]
      have e2:Zly (srt (cat (λ_ u=>Zdg (Yc b) (ins b) u) 0 ((inL x).map Int.toNat)))=some (Zij (srt (cat (λ_ u=>Zdg (Yc b) (ins b) u) 0 ((inL x).map Int.toNat)))):=by
       unfold Zly;rw[if_pos (by rw[Zxr];exact hpos)]
      rw[e1,Bq,e2,Bq,Bq,ZA0 (Zlp (Yc b) (ins b) v) λz=>?_];rw[Zq8,ZfJ hB hv];constructor
      ·rintro ⟨u,hu,hz⟩
       obtain ⟨s0,e,hs0⟩:=(ZfJ hB (hB v _ u hv hi hu)).1 hz;exact ⟨s0,e,.step hi hu hs0⟩
      ·rintro ⟨s0,e,hs0⟩
       obtain ⟨u,hu,hsu⟩:=(Zlm hi).1 hs0;exact ⟨u,hu,(ZfJ hB (hB v _ u hv hi hu)).2 ⟨s0,e,hsu⟩⟩)
    exact this)
  (λout ho=>by
   simp only[Qd,show YA.order (b,gates b,s.2,())=s.2 from rfl,Int.lt_irrefl,if_false])
 exact ⟨out,e,h1,λv hv=>h2 v (hall v hv)⟩
def Zwh (b:Ze) (list:List Zg) (l:List Int):Int:=l.foldl (λm x=>Wq (m+Zg.Zaw (JG b list x))) 0
theorem Zoo {b:Ze} {s:List Bool×List Int} {list:List Zg} (ha:Zct b list) {l:List Int} (hl:l.length<=1048576) (hin:∀ x∈l,x∈srcs b):JC (chn b s list) l=some (Zwh b list l):=by
 unfold JC;refine YO (l:=l) (λk=>(Zwh b list (l.take k),(k:Int),())) (λk x hx hk=>?_) ?_
 ·have e:ZgK (Ty.int IntKind.i64) Zy (YI.of (chn b s list)) x=some (JG b list x):=Zn9 ha (hin x (List.mem_of_getElem? hx))
  simp only[VJ,show (k:Int)<(l.length:Int) from by omega,if_true,Zo,hx,Bq,e,Xj (show k<=1048576 by omega)];rw[Yp hx];unfold Zwh;rw[List.foldl_append];rfl
 ·simp only[VJ,Int.lt_irrefl,if_false,List.take_length]
def sumTo (g:Nat->Int):Nat->Int
 | 0=>0
 | k+1=>sumTo g k+g k
theorem sumTo_congr {g h:Nat->Int}:∀ {k:Nat},(∀ i,i<k->g i=h i)->sumTo g k=sumTo h k
 | 0,_=>rfl
 | k+1,e=>by
  show sumTo g k+g k=sumTo h k+h k;rw[sumTo_congr λi hi=>e i (by omega),e k (by omega)]
theorem ZmN (g:Nat->Int) (a:Nat):∀ b,sumTo g (a+b)=sumTo g a+sumTo (λi=>g (a+i)) b
 | 0=>by show sumTo g a=sumTo g a+0;omega
 | b+1=>by
  show sumTo g (a+b)+g (a+b)=sumTo g a+(sumTo (λi=>g (a+i)) b+g (a+b));rw[ZmN g a b];omega
theorem Zn1 (g h:Nat->Int):∀ k,sumTo (λi=>g i+h i) k=sumTo g k+sumTo h k
 | 0=>rfl
 | k+1=>by
  show sumTo (λi=>g i+h i) k+(g k+h k)=(sumTo g k+g k)+(sumTo h k+h k);rw[Zn1 g h k];omega
theorem ZmO (g:Nat->Int) (c:Int):∀ k,sumTo (λi=>g i*c) k=sumTo g k*c
 | 0=>by show (0:Int)=0*c;rw[Int.zero_mul]
 | k+1=>by
  show sumTo (λi=>g i*c) k+g k*c=(sumTo g k+g k)*c;rw[ZmO g c k,Int.add_mul]
theorem Zlo {g:Nat->Int} {c:Int}:∀ {k:Nat},(∀ i,i<k->0<=g i/\g i<=c)->0<=sumTo g k/\sumTo g k<=(k:Int)*c
 | 0,_=>by show (0:Int)<=0/\(0:Int)<=((0:Nat):Int)*c;simp
 | k+1,h=>by
  obtain ⟨h1,h2⟩:=Zlo (g:=g) (c:=c) (k:=k) λi hi=>h i (by omega);have h3:=h k (by omega);show 0<=sumTo g k+g k/\sumTo g k+g k<=((k+1:Nat):Int)*c;have e:((k+1:Nat):Int)*c=(k:Int)*c+c:=by
   rw[show ((k+1:Nat):Int)=(k:Int)+1 by omega,Int.add_mul,Int.one_mul]
  rw[e];omega
def Qv (i p:Nat):Nat:=i / 2 ^ p % 2
theorem Zsc (i:Nat):Qv i 0=i % 2:=by unfold Qv;rw[Nat.pow_zero,Nat.div_one]
theorem Zsb (i p:Nat):Qv i (p+1)=Qv (i / 2) p:=by
 unfold Qv;rw[Nat.pow_succ,Nat.mul_comm,Nat.div_div_eq_div_mul]
theorem Zlu {i k:Nat} (h:i<2 ^ k):Qv i k=0/\Qv (2 ^ k+i) k=1:=by
 have hp:0<2 ^ k:=Nat.two_pow_pos k;unfold Qv;constructor
 ·rw[Nat.div_eq_of_lt h]
 ·rw[Nat.add_div_left _ hp,Nat.div_eq_of_lt h]
theorem Zo7 {i q k:Nat} (h:q<k):Qv (2 ^ k+i) q=Qv i q:=by
 have hp:0<2 ^ q:=Nat.two_pow_pos q;have e:2 ^ k=2 ^ q*(2*2 ^ (k-q-1)):=by
  rw[show 2*2 ^ (k-q-1)=2 ^ (k-q) by rw[<-Nat.pow_succ'];congr 1;omega,<-Nat.pow_add];congr 1;omega
 unfold Qv;rw[e,Nat.mul_add_div hp];omega
theorem Zsa {i q:Nat} (h:Qv i q=0):Qv (i+2 ^ q) q=1:=by
 have hp:0<2 ^ q:=Nat.two_pow_pos q;unfold Qv at *;rw[Nat.add_div_right _ hp];omega
theorem Zww {i q k:Nat} (hq:q<k) (hi:i<2 ^ k) (h:Qv i q=0):i+2 ^ q<2 ^ k:=by
 induction k generalizing i with
 | zero=>omega
 | succ k ih =>
  have hs:2 ^ (k+1)=2 ^ k+2 ^ k:=by rw[Nat.pow_succ];omega
  by_cases e:q=k
  ·subst e
   by_cases q2:i<2 ^ q
   ·omega
   ·exfalso
    obtain ⟨j,rfl⟩:∃ j,i=2 ^ q+j:=⟨i-2 ^ q,by omega⟩;rw[(Zlu (i:=j) (by omega)).2] at h;omega
  ·by_cases q2:i<2 ^ k
   ·have:=ih (by omega) q2 h
    omega
   ·obtain ⟨j,rfl⟩:∃ j,i=2 ^ k+j:=⟨i-2 ^ k,by omega⟩
    rw[Zo7 (by omega)] at h;have:=ih (by omega) (by omega) h;omega
theorem ZuB (g:Nat->Int) {q k:Nat} (h:q<k):sumTo g (2 ^ k)=sumTo (λi=>if Qv i q=0 then g i+g (i+2 ^ q) else 0) (2 ^ k):=by
 induction k generalizing g with
 | zero=>omega
 | succ k ih =>
  have hs:2 ^ (k+1)=2 ^ k+2 ^ k:=by rw[Nat.pow_succ];omega
  rw[hs,ZmN,ZmN];by_cases e:q=k
  ·subst e
   have e1:sumTo (λi=>if Qv i q=0 then g i+g (i+2 ^ q) else 0) (2 ^ q)=sumTo g (2 ^ q)+sumTo (λi=>g (2 ^ q+i)) (2 ^ q):=by
    rw[<-Zn1];refine sumTo_congr λi hi=>?_;rw[if_pos (Zlu hi).1,Nat.add_comm i]
   have e2:sumTo (λi=>if Qv (2 ^ q+i) q=0 then g (2 ^ q+i)+g (2 ^ q+i+2 ^ q) else 0) (2 ^ q)=0:=by
    have:sumTo (λi=>if Qv (2 ^ q+i) q=0 then g (2 ^ q+i)+g (2 ^ q+i+2 ^ q) else 0) (2 ^ q)=sumTo (λ_=>0*0) (2 ^ q):=by
     refine sumTo_congr λi hi=>?_;rw[if_neg (by rw[(Zlu hi).2];omega)];rfl
    rw[this,ZmO,Int.mul_zero]
   rw[e1,e2];omega
  ·have hq:q<k:=by omega
   have e1:=ih g hq;have e2:=ih (λi=>g (2 ^ k+i)) hq;rw[e1,e2];congr 1;refine sumTo_congr λi hi=>?_;rw[Zo7 hq];split
   ·show g (2 ^ k+i)+g (2 ^ k+(i+2 ^ q))=g (2 ^ k+i)+g (2 ^ k+i+2 ^ q)
    rw[Nat.add_assoc]
   ·rfl
def fac (x:Int×Int) (i:Nat):Int:=if i % 2=1 then x.1 else x.2-x.1
def wOf:List (Int×Int)->Nat->Int
 | [],_=>1
 | x::t,i=>fac x i*wOf t (i / 2)
def wWo:List (Int×Int)->Nat->Nat->Int
 | [],_,_=>1
 | _::t,i,0=>wOf t (i / 2)
 | x::t,i,q+1=>fac x i*wWo t (i / 2) q
def Z7:List (Int×Int)->Int
 | []=>1
 | x::t=>x.2*Z7 t
theorem ZwC:∀ {fs:List (Int×Int)} {q i:Nat} {x:Int×Int},fs[q]?=some x->Qv i q=0->wOf fs i+wOf fs (i+2 ^ q)=wWo fs i q*x.2
 | [],q,i,x,h,_=>by cases q<;>cases h
 | y::t,0,i,x,h,hb=>by
  have e:y=x:=by simpa using h
  subst e;rw[Zsc] at hb;show fac y i*wOf t (i / 2)+fac y (i+2 ^ 0)*wOf t ((i+2 ^ 0) / 2)=wOf t (i / 2)*y.2;rw[show (i+2 ^ 0) / 2=i / 2 by rw[Nat.pow_zero];omega];unfold fac;rw[if_neg (by omega),if_pos (by rw[Nat.pow_zero];omega),<-Int.add_mul,Int.mul_comm];congr 1;omega
 | y::t,q+1,i,x,h,hb=>by
  rw[Zsb] at hb;have ih:=ZwC (fs:=t) (q:=q) (i:=i / 2) (x:=x) (by simpa using h) hb;have e1:(i+2 ^ (q+1)) / 2=i / 2+2 ^ q:=by rw[Nat.pow_succ];omega
  have e2:fac y (i+2 ^ (q+1))=fac y i:=by
   unfold fac;rw[show (i+2 ^ (q+1)) % 2=i % 2 by rw[Nat.pow_succ];omega]
  show fac y i*wOf t (i / 2)+fac y (i+2 ^ (q+1))*wOf t ((i+2 ^ (q+1)) / 2)=fac y i*wWo t (i / 2) q*x.2;rw[e1,e2,<-Int.mul_add,ih,Int.mul_assoc]
theorem Zxl {fs:List (Int×Int)} {q:Nat} {x:Int×Int} (hx:fs[q]?=some x) (f:Nat->Int) (ch:Nat->Prop) [DecidablePred ch]
  (h0:∀ i,i<2 ^ fs.length->Qv i q=0->(ch i<->f i≠f (i+2 ^ q))/\(ch (i+2 ^ q)<->f i≠f (i+2 ^ q))) :
  sumTo (λi=>if ch i then wOf fs i else 0) (2 ^ fs.length)=sumTo (λi=>if Qv i q=0/\f i≠f (i+2 ^ q) then wWo fs i q else 0) (2 ^ fs.length)*x.2:=by
 have hq:q<fs.length:=(List.getElem?_eq_some_iff.1 hx).1;rw[ZuB _ hq,<-ZmO];refine sumTo_congr λi hi=>?_;by_cases hb:Qv i q=0
 ·obtain ⟨c1,c2⟩:=h0 i hi hb
  rw[if_pos hb];by_cases hc:f i≠f (i+2 ^ q)
  ·rw[if_pos (c1.2 hc),if_pos (c2.2 hc),if_pos ⟨hb,hc⟩]
   exact ZwC hx hb
  ·rw[if_neg (λq=>hc (c1.1 q)),if_neg (λq=>hc (c2.1 q)),if_neg (λq=>hc q.2),Int.zero_mul]
   rfl
 ·rw[if_neg hb,if_neg (λq=>hb q.1),Int.zero_mul]
def Zx6 (fs:List (Int×Int)):Prop:=∀ x∈fs,0<=x.1/\x.1<=x.2/\1<=x.2/\x.2<=10
theorem Zrj {x:Int×Int} (h:0<=x.1/\x.1<=x.2/\1<=x.2/\x.2<=10) (i:Nat):0<=fac x i/\fac x i<=10:=by unfold fac;split<;>omega
theorem ZrJ {a b c:Int} (ha:0<=a/\a<=10) (hb:0<=b/\b<=c):0<=a*b/\a*b<=10*c:=⟨Int.mul_nonneg ha.1 hb.1,Int.mul_le_mul ha.2 hb.2 hb.1 (by omega)⟩
theorem ZuN:∀ {fs:List (Int×Int)} (h:Zx6 fs) (i:Nat),0<=wOf fs i/\wOf fs i<=10 ^ fs.length
 | [],_,_=>by show (0:Int)<=1/\(1:Int)<=10 ^ 0;decide
 | x::t,h,i=>by
  have:=ZrJ (Zrj (h x List.mem_cons_self) i) (ZuN (fs:=t) (λy hy=>h y (List.mem_cons_of_mem _ hy)) (i / 2));rw[List.length_cons,Int.pow_succ,Int.mul_comm (10 ^ t.length)];exact this
theorem ZwA:∀ {fs:List (Int×Int)} (h:Zx6 fs) (i q:Nat),0<=wWo fs i q/\wWo fs i q<=10 ^ fs.length
 | [],_,_,_=>by show (0:Int)<=1/\(1:Int)<=10 ^ 0;decide
 | x::t,h,i,0=>by
  have:=ZuN (fs:=t) (λy hy=>h y (List.mem_cons_of_mem _ hy)) (i / 2);rw[List.length_cons,Int.pow_succ];show 0<=wOf t (i / 2)/\wOf t (i / 2)<=_;omega
 | x::t,h,i,q+1=>by
  have:=ZrJ (Zrj (h x List.mem_cons_self) i) (ZwA (fs:=t) (λy hy=>h y (List.mem_cons_of_mem _ hy)) (i / 2) q);rw[List.length_cons,Int.pow_succ,Int.mul_comm (10 ^ t.length)];exact this
theorem Zth:∀ {fs:List (Int×Int)} (h:Zx6 fs),1<=Z7 fs/\Z7 fs<=10 ^ fs.length
 | [],_=>by show (1:Int)<=1/\(1:Int)<=10 ^ 0;decide
 | x::t,h=>by
  have hx:=h x List.mem_cons_self;have ht:=Zth (fs:=t) λy hy=>h y (List.mem_cons_of_mem _ hy);have:=ZrJ (a:=x.2) (by omega) (b:=Z7 t) (c:=10 ^ t.length) (by omega);rw[List.length_cons,Int.pow_succ,Int.mul_comm (10 ^ t.length)];refine ⟨?_,this.2⟩;show 1<=x.2*Z7 t;have:=Int.mul_le_mul (a:=1) (b:=1) (c:=x.2) (d:=Z7 t) (by omega) (by omega) (by omega) (by omega);omega
theorem Zq5 {x:Nat} (hx:x<4611686018427387904):(BitVec.ofInt 64 (x:Int)).toNat=x:=by
 rw[BitVec.toNat_ofInt];omega
theorem Zo8 {x y:Nat} (hx:x<4611686018427387904) (hy:y<4611686018427387904):Go.bits .and .i64 (x:Int) (y:Int)=((x &&& y:Nat):Int):=by
 show Wq (((BitVec.ofInt 64 (x:Int) &&& BitVec.ofInt 64 (y:Int)).toNat:Nat):Int)=_;have:=Nat.and_le_left (n:=x) (m:=y);rw[BitVec.toNat_and,Zq5 hx,Zq5 hy,XG (by omega) (by omega)]
theorem Zlv {x y:Nat} (hx:x<4611686018427387904) (hy:y<4611686018427387904):Go.bits .or .i64 (x:Int) (y:Int)=((x ||| y:Nat):Int):=by
 show Wq (((BitVec.ofInt 64 (x:Int) ||| BitVec.ofInt 64 (y:Int)).toNat:Nat):Int)=_;have:x ||| y<2 ^ 62:=Nat.or_lt_two_pow (by omega) (by omega);rw[BitVec.toNat_or,Zq5 hx,Zq5 hy,XG (by omega) (by omega)]
theorem Zxo (x p:Nat) (hp:p<=64):Int.fdiv (x:Int) (2 ^ (min p 64))=((x / 2 ^ p:Nat):Int):=by
 rw[Nat.min_eq_left hp,Int.fdiv_eq_ediv_of_nonneg _ (Int.pow_nonneg (by decide)),Int.natCast_ediv,Int.natCast_pow];rfl
theorem Zym {x p:Nat} (hx:x<4611686018427387904) (hp:p<=64):Go.bits .and .i64 (Int.fdiv (x:Int) (2 ^ (min p 64))) 1=((Qv x p:Nat):Int):=by
 have h1:x / 2 ^ p<=x:=Nat.div_le_self _ _;rw[Zxo x p hp,show (1:Int)=((1:Nat):Int) from rfl,Zo8 (by omega) (by decide),Nat.and_one_is_mod];rfl
theorem Zwv {a b p:Nat} (h:a<2 ^ p):a ||| 2 ^ p*b=a+2 ^ p*b:=by
 rw[Nat.or_comm,<-Nat.two_pow_add_eq_or_of_lt h,Nat.add_comm]
theorem Zxn {x p:Nat} (h:Qv x p=0):x ||| 2 ^ p=x+2 ^ p:=by
 have hp:0<2 ^ p:=Nat.two_pow_pos p;have hs:2 ^ (p+1)=2*2 ^ p:=by rw[Nat.pow_succ];omega
 have e1:x=2 ^ p*(x / 2 ^ p)+x % 2 ^ p:=(Nat.div_add_mod x (2 ^ p)).symm;have hm:x % 2 ^ p<2 ^ p:=Nat.mod_lt _ hp;unfold Qv at h;obtain ⟨c,hc⟩:∃ c,x / 2 ^ p=2*c:=⟨x / 2 ^ p / 2,by omega⟩;have e2:x=2 ^ (p+1)*c+x % 2 ^ p:=by
  rw[hc] at e1;rw[hs];have:2 ^ p*(2*c)=2*2 ^ p*c:=by rw[<-Nat.mul_assoc,Nat.mul_comm (2 ^ p) 2]
  omega
 have e3:x % 2 ^ p ||| 2 ^ p=x % 2 ^ p+2 ^ p:=by
  have:=Zwv (b:=1) hm
  rwa [Nat.mul_one] at this
 have e4:2 ^ (p+1)*c ||| (x % 2 ^ p+2 ^ p)=2 ^ (p+1)*c+(x % 2 ^ p+2 ^ p):=(Nat.two_pow_add_eq_or_of_lt (by omega) c).symm;have e5:2 ^ (p+1)*c ||| x % 2 ^ p=2 ^ (p+1)*c+x % 2 ^ p:=(Nat.two_pow_add_eq_or_of_lt (by omega) c).symm;rw[e2,<-e5,Nat.or_assoc];have e6:(2 ^ (p+1)*c ||| x % 2 ^ p) % 2 ^ p=x % 2 ^ p:=by rw[e5,<-e2]
 rw[e3,e4,e5];omega
def idxOf:List Nat->Nat
 | []=>0
 | x::t=>x+2*idxOf t
theorem Zrs:∀ {l:List Nat},(∀ x∈l,x<2)->idxOf l<2 ^ l.length
 | [],_=>by decide
 | x::t,h=>by
  have h1:=Zrs λy hy=>h y (List.mem_cons_of_mem _ hy);have h2:=h x List.mem_cons_self;rw[List.length_cons,Nat.pow_succ];show x+2*idxOf t<_;omega
theorem Zon:∀ (l:List Nat) (x:Nat),idxOf (l++[x])=idxOf l+2 ^ l.length*x
 | [],x=>by show x+2*0=0+2 ^ 0*x;omega
 | y::t,x=>by
  show y+2*idxOf (t++[x])=y+2*idxOf t+2 ^ (t.length+1)*x;have:2 ^ (t.length+1)*x=2*(2 ^ t.length*x):=by rw[Nat.pow_succ,Nat.mul_comm (2 ^ t.length) 2,Nat.mul_assoc]
  rw[Zon t x,this];omega
def ZqV (b:Ze) (v:Nat):List Int:=match (insts b)[(gF b v).toNat]? with
 | some x=>match (Zt.Cells (Ze.Library b))[(Zd.Cell x).toNat]? with
  | some c=>Zm.Truth c
  | none=>[]
 | none=>[]
def tt (b:Ze) (v:Nat) (l:List Int):Int:=((ZqV b v)[idxOf (l.map Int.toNat)]?).getD 0
def Bit (n:Int):Prop:=n=0\/n=1
theorem Bit.nat {n:Int} (h:Bit n):n.toNat<2/\n=(n.toNat:Int):=by
 rcases h with rfl | rfl
 ·exact ⟨by decide,rfl⟩
 ·exact ⟨by decide,rfl⟩
theorem Zv4 {b:Ze} (h:Va b) {v i:Nat} {x:Zd} (g:Zp5 b v i x) {c:Zm} (hc:ZuX b x c):ZqV b v=Zm.Truth c/\(Zm.Truth c).length=2 ^ (inL x).length/\∀ y∈Zm.Truth c,Bit y:=by
 have hcell:(Zt.Cells (Ze.Library b))[(Zd.Cell x).toNat]?=some c:=by
  have:=hc.at_;unfold atI at this;split at this
  ·exact this
  ·cases this
 have hk:=hc.ok.2.2.2.2.2;unfold ZdY at hk;have hk1:Zm.Kind c=1:=by rw[<-hc.kind];exact g.kind
 rcases hk with ⟨_,_,h1,h2⟩ | ⟨q,_⟩ | ⟨q,_⟩
 ·refine ⟨?_,?_,λy hy=>?_⟩
  ·unfold ZqV
   rw[g.gF,Int.toNat_natCast,g.at_];simp only;rw[hcell]
  ·rw[h1,Zg9,hc.len]
  ·have:=h2 y hy
   unfold Bit;omega
 ·rw[hk1] at q;exact absurd q (by omega)
 ·rw[hk1] at q;exact absurd q (by omega)
theorem Zx2 {b:Ze} (h:Va b) {v i:Nat} {x:Zd} (g:Zp5 b v i x) {c:Zm} (hc:ZuX b x c) {l:List Int} (hl:l.length=(inL x).length) (hb:∀ y∈l,Bit y) :
  (Zm.Truth c)[idxOf (l.map Int.toNat)]?=some (tt b v l)/\Bit (tt b v l):=by
 obtain ⟨h1,h2,h3⟩:=Zv4 h g hc;have hlt:=Zrs (l:=l.map Int.toNat) (λn hn=>by
  obtain ⟨y,hy,rfl⟩:=List.mem_map.1 hn;exact (hb y hy).nat.1)
 rw[List.length_map,hl] at hlt;have e:(Zm.Truth c)[idxOf (l.map Int.toNat)]?=some ((Zm.Truth c)[idxOf (l.map Int.toNat)]'(by rw[h2];exact hlt)):=List.getElem?_eq_getElem _;have e2:tt b v l=(Zm.Truth c)[idxOf (l.map Int.toNat)]'(by rw[h2];exact hlt):=by
  unfold tt;rw[h1,e];rfl
 exact ⟨by rw[e2];exact e,by rw[e2];exact h3 _ (List.getElem_mem _)⟩
structure Tak (b:Ze) (a W:Nat->Int):Prop where
 vals:ZBS (Yc b) (ins b) (tt b) a W
 bit:∀ v,v<Yc b->Bit (W v)
theorem Tak.src {b:Ze} {a W:Nat->Int} (h:Tak b a W) {v:Nat} (hv:v<Yc b) (hi:ins b v=none):W v=a v:=by
 have:=h.vals v hv;rw[hi] at this;exact this
theorem Tak.gate {b:Ze} {a W:Nat->Int} (h:Tak b a W) {v:Nat} (hv:v<Yc b) {l:List Nat} (hi:ins b v=some l):W v=tt b v (l.map W):=by
 have:=h.vals v hv;rw[hi] at this;exact this
theorem ZyW {b:Ze} {s:List Bool×List Int} (h:Lgc b s) (a:Nat->Int) (ha:∀ v,Bit (a v)):∃ W,Tak b a W:=by
 obtain ⟨_,r,hr,hrs⟩:=h.ord.rank h.all;have hB:=Ze0 h.blk 0;obtain ⟨W,hW⟩:=Zx4 hr hB (λv hv=>(hrs v hv).1) (tt b) a;refine ⟨W,hW,?_⟩;have key:∀ m v,r v=m->v<Yc b->Bit (W v):=by
  intro m;induction m using Nat.strongRecOn with
  | _ m ih =>
   intro v hm hv;have hWv:=hW v hv;rcases ZbU h.blk v with q | ⟨i,x,g⟩
   ·rw[Zb2 q] at hWv
    simp only at hWv;rw[hWv];exact ha v
   ·rw[Zan g] at hWv
    simp only at hWv;rw[hWv];obtain ⟨c,hc⟩:=ZjP h.blk (List.mem_of_getElem? g.at_);refine (Zx2 h.blk g hc (by rw[List.length_map,List.length_map]) λy hy=>?_).2;obtain ⟨u,hu,rfl⟩:=List.mem_map.1 hy;exact ih (r u) (by rw[<-hm];exact hr v _ u hv (Zan g) hu) u rfl (hB v _ u hv (Zan g) hu)
 exact λv hv=>key (r v) v rfl hv
theorem Zxd {acc:List Nat} {y:Int} (hacc:∀ x∈acc,x<2) (hl:acc.length<=8) (hy:Bit y) :
  Go.bits Go.BinOp.or IntKind.i64 ((idxOf acc:Nat):Int) (Wq (y*(2:Int) ^ min acc.length (IntKind.bits IntKind.i64)))=((idxOf (acc++[y.toNat]):Nat):Int):=by
 have hb:min acc.length (IntKind.bits IntKind.i64)=acc.length:=Nat.min_eq_left (by show acc.length<=64;omega);have h1:=Zrs hacc;have hp:2 ^ acc.length<=256:=Nat.le_trans (Nat.pow_le_pow_right (by omega) hl) (by decide);obtain ⟨h2,h3⟩:=hy.nat;have e:y*(2:Int) ^ acc.length=((2 ^ acc.length*y.toNat:Nat):Int):=by
  rw[h3,Int.toNat_natCast,Int.natCast_mul,Int.mul_comm];simp
 have hle:2 ^ acc.length*y.toNat<=256*1:=Nat.mul_le_mul hp (by omega);rw[hb,e,XG (by omega) (by omega),Zlv (by omega) (by omega),Zwv h1,Zon]
theorem Zm8 {b:Ze} {s:List Bool×List Int} (h:Lgc b s) {m:List (Int×Int)} {a W:Nat->Int} (hW:Tak b a W) (hm:∀ v,v<Yc b->ins b v=none->Option.getD (ZgK (.int .i64) (.int .i64) m (v:Int)) (0:Int)=a v) :
  ∃ out,Zal (b,gates b,s.2,()) m=some out/\out.length=Yc b/\∀ v,v<Yc b->out[v]?=some (W v):=by
 have hn:=Qt h.blk;have hB:=Ze0 h.blk 0;obtain ⟨hall,_⟩:=h.ord.rank h.all;unfold Zal;rw[show YA.gate (b,gates b,s.2,())=gates b from rfl,JI,Zh (by omega),Zh (by omega),Zh (by omega),Zh (by omega),Int.toNat_natCast];obtain ⟨out,e,h1,h2⟩:=along h.ord (α:=Int) (λo k=>(k,o,())) W (step:=λv=>QG (b,gates b,s.2,()) m v.1 v.2.1) (good:=λo=>o) (z:=List.replicate (Yc b) 0) (by simp) (by omega)
  (λk v out hk hkl hkm hv ho hin=>by
   have hord:YA.order (b,gates b,s.2,())=s.2:=rfl;have hgate:YA.gate (b,gates b,s.2,())=gates b:=rfl;have hov:out[v]?=some (out[v]'(by omega)):=List.getElem?_eq_getElem _;simp only[QG,hord,hgate,show (k:Int)<(s.2.length:Int) from by omega,if_true,Zo,hk,Bq,Zeu b hv,hov,Xj hkm,Int.toNat_natCast];rcases ZbU h.blk v with q | ⟨i,x,g⟩
   ·rw[q,if_pos (by omega),hm v hv (Zb2 q),hW.src hv (Zb2 q)]
   ·have hx:=List.mem_of_getElem? g.at_
    obtain ⟨c,hc⟩:=ZjP h.blk hx;have h5:=hc.few;have hil:=Zg9 (x:=x);have hi:=Zan g;rw[g.gF,if_neg (by omega),Zh2 h.blk hv g,Bq];have hbits:∀ y∈((inL x).map Int.toNat).map W,Bit y:=λy hy=>by
     obtain ⟨u,hu,rfl⟩:=List.mem_map.1 hy;exact hW.bit u (hB v _ u hv hi hu)
    have:=YO (l:=inL x) (λj=>(((idxOf ((((inL x).map Int.toNat).map W).map Int.toNat |>.take j):Nat):Int),(j:Int),())) (step:=λw=>QF (b,gates b,s.2,()) (k:Int) out (v:Int) (i:Int) (inL x) w.1 w.2.1)
     (good:=.inl (((k+1:Nat):Int),out.set v (W v),()))
     (λj y hy hj=>by
      obtain ⟨u,rfl,hu,hum⟩:=Zor h.blk hx hy;have hou:=hin _ hi u (List.mem_of_getElem? hum);have hw:((((inL x).map Int.toNat).map W).map Int.toNat)[j]?=some (W u).toNat:=by rw[List.getElem?_map,List.getElem?_map,hum];rfl
      simp only[QF,show (j:Int)<((inL x).length:Int) from by omega,if_true,Zo,hy,hou,Bq,Xj (show j<=1048576 by omega),Int.toNat_natCast];have hlen:(((((inL x).map Int.toNat).map W).map Int.toNat).take j).length=j:=by rw[List.length_take,List.length_map,List.length_map,List.length_map];omega
      have:=Zxd (acc:=((((inL x).map Int.toNat).map W).map Int.toNat).take j) (λz hz=>by
       obtain ⟨y,hy,rfl⟩:=List.mem_map.1 (List.mem_of_mem_take hz);exact (hbits y hy).nat.1) (by omega) (hW.bit u hu)
      rw[hlen] at this;rw[Zh (by omega),this,Yp hw])
     (by
      have hfl:((((inL x).map Int.toNat).map W).map Int.toNat).take (inL x).length=((((inL x).map Int.toNat).map W).map Int.toNat):=List.take_of_length_le (by rw[List.length_map,List.length_map,List.length_map];omega);obtain ⟨t1,_⟩:=Zx2 h.blk g hc (l:=((inL x).map Int.toNat).map W) (by rw[List.length_map,List.length_map]) hbits;rw[hfl];simp only[QF,Int.lt_irrefl,if_false,show YA.Block (b,gates b,s.2,())=b from rfl,Zpa g.at_ hc,Bq,Zo,t1,hov,Xj hkm,Int.toNat_natCast,hW.gate hv hi])
    exact this)
  (λout ho=>by
   simp only[QG,show YA.order (b,gates b,s.2,())=s.2 from rfl,Int.lt_irrefl,if_false])
 exact ⟨out,e,h1,λv hv=>h2 v (hall v hv)⟩
def ZuU (sup:List Int) (row:Nat) (v:Nat):Int:=if (v:Int)∈sup then ((Qv row (XI (λy=>decide (y=(v:Int))) sup).toNat:Nat):Int) else 0
theorem Zq4 (i p:Nat):Qv i p<2:=Nat.mod_lt _ (by decide)
theorem Zq0 (sup:List Int) (row v:Nat):Bit (ZuU sup row v):=by
 unfold ZuU Bit;split
 ·have:=Zq4 row (XI (λy=>decide (y=(v:Int))) sup).toNat
  omega
 ·exact .inl rfl
theorem ZsV {sup:List Int} (hs:sup.Pairwise (·<·)) {row p v:Nat} (h:sup[p]?=some (v:Int)):ZuU sup row v=((Qv row p:Nat):Int):=by
 unfold ZuU;rw[if_pos (List.mem_of_getElem? h),Zwr hs h,Int.toNat_natCast]
noncomputable def Zzz (b:Ze) (sup:List Int) (row:Nat):Nat->Int:=open Classical in if h:∃ W,Tak b (ZuU sup row) W then Classical.choose h else λ_=>0
theorem ZrW {b:Ze} {s:List Bool×List Int} (h:Lgc b s) (sup:List Int) (row:Nat):Tak b (ZuU sup row) (Zzz b sup row):=by
 have hx:=ZyW h (ZuU sup row) (Zq0 sup row);unfold Zzz;rw[dif_pos hx];exact Classical.choose_spec hx
noncomputable def fnL (b:Ze) (sup:List Int) (v:Nat):List Int:=(List.range (2 ^ sup.length)).map λrow=>Zzz b sup row v
theorem ZjU (b:Ze) (sup:List Int) (v:Nat):(fnL b sup v).length=2 ^ sup.length:=by simp[fnL]
theorem Zwp (b:Ze) (sup:List Int) (v:Nat) {row:Nat} (h:row<2 ^ sup.length):(fnL b sup v)[row]?=some (Zzz b sup row v):=by
 unfold fnL;rw[List.getElem?_map,List.getElem?_range h];rfl
theorem ZuW {k:Nat} (h:k<=8):2 ^ k<=256:=Nat.le_trans (Nat.pow_le_pow_right (by omega) h) (by decide)
theorem ZsU {m:Nat} (h:m<=8):Wq ((1:Int)*(2:Int) ^ min m (IntKind.bits IntKind.i64))=((2 ^ m:Nat):Int):=by
 have hb:min m (IntKind.bits IntKind.i64)=m:=Nat.min_eq_left (by show m<=64;omega);have e:(1:Int)*(2:Int) ^ m=((2 ^ m:Nat):Int):=by simp
 rw[hb,e];have h16:=ZuW h;clear hb e;generalize 2 ^ m=g at h16 ⊢;rw[XG (by omega) (by omega)]
theorem Zn8 {x p:Nat} (hx:x<=1048576) (hp:p<=8):Go.bits Go.BinOp.and IntKind.i64 (Int.fdiv (x:Int) ((2:Int) ^ min p (IntKind.bits IntKind.i64))) (1:Int)=((Qv x p:Nat):Int):=Zym (by omega) (by omega)
theorem ZkR {b:Ze} {s:List Bool×List Int} (h:Lgc b s) {v:Nat} (hv:v<Yc b) :
  Ja (b,gates b,s.2,()) (v:Int)=some (if 8<(Zdg (Yc b) (ins b) v).length then ([],[],false) else (fnL b (Zdg (Yc b) (ins b) v) v,Zdg (Yc b) (ins b) v,true)):=by
 have hn:=Qt h.blk;obtain ⟨out,e,ho,ho2⟩:=ZmP h;have hinc:=Zlp (Yc b) (ins b) v;unfold Ja;rw[e,Bq,Zo,ho2 v hv,Bq];have hmem:∀ {p:Nat} {y:Int},(Zdg (Yc b) (ins b) v)[p]?=some y->∃ u:Nat,y=(u:Int)/\u<Yc b/\ins b u=none:=λ{p y} hy=>(ZoE h.blk).1 (ZiQ h.blk hv (List.mem_of_getElem? hy));generalize hsup:Zdg (Yc b) (ins b) v=sup at hinc hmem;by_cases q:8<sup.length
 ·rw[if_pos q,if_pos (by omega)]
 ·rw[if_neg q,if_neg (by omega),Zh (by omega)]
  have hk:sup.length<=8:=by omega
  have hp:=ZuW hk;refine Ya (2 ^ sup.length) (λk w=>w=((k:Int),(fnL b sup v).take k,())) _ rfl ?_ ?_
  ·rintro row _ hrow rfl
   left;refine ⟨_,?_,rfl⟩;simp only[Vs,Int.toNat_natCast,ZsU hk];rw[if_pos (by omega)]
   let vals:List Int:=(List.range sup.length).map λp=>((Qv row p:Nat):Int)
   have hvl:vals.length=sup.length:=by simp[vals]
   have hva:∀ p,p<sup.length->vals[p]?=some ((Qv row p:Nat):Int):=λp hp=>by
    show ((List.range sup.length).map λp=>((Qv row p:Nat):Int))[p]?=_;rw[List.getElem?_map,List.getElem?_range hp];rfl
   obtain ⟨out2,e2,hl2,hv2⟩:=Zm8 h (m:=Zp2 (v:=.int .i64) sup vals sup.length) (ZrW h sup row) (λu hu hiu=>by
    by_cases w:(u:Int)∈sup
    ·obtain ⟨p,hp⟩:=List.mem_iff_getElem?.1 w
     have hpl:=(List.getElem?_eq_some_iff.1 hp).1;rw[Zov (v:=.int .i64) hinc hvl _ (Nat.le_refl _) p _ hp,if_pos hpl,hva p hpl,ZsV hinc hp];rfl
    ·rw[ZlX (v:=.int .i64) w]
     unfold ZuU;rw[if_neg w];rfl)
   refine YO (l:=sup) (λp=>((p:Int),Zp2 (v:=.int .i64) sup vals p,())) (λp y hy hpl=>?_) ?_
   ·simp only[Vr,show (p:Int)<(sup.length:Int) from by omega,if_true,Zo,hy,Bq,Int.toNat_natCast,Zn8 (show row<=1048576 by omega) (show p<=8 by omega),Xj (show p<=1048576 by omega)]
    rw[Zh (by omega)];have ek:Zp2 (v:=.int .i64) sup vals (p+1)=ZnR (.int .i64) (.int .i64) (Zp2 (v:=.int .i64) sup vals p) y ((Qv row p:Nat):Int):=by
     conv=>lhs;unfold Zp2
     rw[hy,hva p hpl]
    rw[ek];rfl
   ·simp only[Vr,Int.lt_irrefl,if_false,e2,Bq,Zo,hv2 v hv,Xj (show row<=1048576 by omega)]
    rw[Zh (by rw[List.length_take,ZjU];simp only[List.length_cons,List.length_nil];omega),Yp (Zwp b sup v hrow)]
  ·rintro _ rfl
   simp only[Vs,Int.toNat_natCast,ZsU hk];rw[if_neg (by omega),List.take_of_length_le (by rw[ZjU];omega)]
def pr (g:Nat->Int):Nat->Int
 | 0=>1
 | k+1=>pr g k*g k
theorem Zmt (g:Nat->Int):∀ k,pr g (k+1)=g 0*pr (λp=>g (p+1)) k
 | 0=>by show 1*g 0=g 0*1;rw[Int.one_mul,Int.mul_one]
 | k+1=>by
  show pr g (k+1)*g (k+1)=g 0*(pr (λp=>g (p+1)) k*g (k+1));rw[Zmt g k,Int.mul_assoc]
theorem Zlk {g h:Nat->Int}:∀ {k:Nat},(∀ i,i<k->g i=h i)->pr g k=pr h k
 | 0,_=>rfl
 | k+1,e=>by
  show pr g k*g k=pr h k*h k;rw[Zlk λi hi=>e i (by omega),e k (by omega)]
theorem ZvL {g:Nat->Int} (h:∀ i,0<=g i/\g i<=10):∀ k,0<=pr g k/\pr g k<=10 ^ k
 | 0=>by show (0:Int)<=1/\(1:Int)<=10 ^ 0;decide
 | k+1=>by
  have h1:=ZvL h k;have:=ZrJ (h k) h1;show 0<=pr g k*g k/\pr g k*g k<=10 ^ (k+1);rw[Int.mul_comm (pr g k),Int.pow_succ,Int.mul_comm (10 ^ k)];exact this
theorem ZvK {k:Nat} (h:k<=8):(10:Int) ^ k<=100000000:=by
 have:(10:Nat) ^ k<=10 ^ 8:=Nat.pow_le_pow_right (by omega) h;have e:((10 ^ k:Nat):Int)=(10:Int) ^ k:=by simp
 rw[<-e];have e2:(10:Nat) ^ 8=100000000:=by decide
 rw[e2] at this;omega
theorem Zzx {g:Nat->Int} (h:∀ i,0<=g i/\g i<=10) {k:Nat} (hk:k+1<=8):Wq (pr g k*g k)=pr g (k+1):=by
 have:=ZvL h (k+1);have h8:=ZvK hk;show Wq (pr g (k+1))=_;rw[XG (by omega) (by omega)]
def Zlf (fs:List (Int×Int)) (p:Nat):Int×Int:=(fs[p]?).getD (0,1)
theorem ZjX {fs:List (Int×Int)} (h:Zx6 fs) (p:Nat):0<=(Zlf fs p).1/\(Zlf fs p).1<=(Zlf fs p).2/\1<=(Zlf fs p).2/\(Zlf fs p).2<=10:=by
 unfold Zlf;cases e:fs[p]? with
 | none=>decide
 | some x=>exact h x (List.mem_of_getElem? e)
theorem Zom (i p:Nat):i / 2 / 2 ^ p=i / 2 ^ (p+1):=by rw[Nat.div_div_eq_div_mul,Nat.pow_succ,Nat.mul_comm]
theorem ZuO:∀ (fs:List (Int×Int)) (i:Nat),wOf fs i=pr (λp=>fac (Zlf fs p) (i / 2 ^ p)) fs.length
 | [],_=>rfl
 | x::t,i=>by
  rw[List.length_cons,Zmt];show fac x i*wOf t (i / 2)=_;rw[ZuO t (i / 2),Nat.pow_zero,Nat.div_one];congr 1;refine Zlk λp hp=>?_;rw[Zom];rfl
theorem ZwB:∀ (fs:List (Int×Int)) (i q:Nat),wWo fs i q=pr (λp=>if p=q then 1 else fac (Zlf fs p) (i / 2 ^ p)) fs.length
 | [],_,_=>rfl
 | x::t,i,0=>by
  rw[List.length_cons,Zmt,if_pos rfl,Int.one_mul];show wOf t (i / 2)=_;rw[ZuO t (i / 2)];refine Zlk λp hp=>?_;rw[if_neg (by omega),Zom];rfl
 | x::t,i,q+1=>by
  rw[List.length_cons,Zmt,if_neg (by omega)];show fac x i*wWo t (i / 2) q=_;rw[ZwB t (i / 2) q,Nat.pow_zero,Nat.div_one];congr 1;refine Zlk λp hp=>?_;by_cases e:p=q
  ·rw[if_pos e,if_pos (by omega)]
  ·rw[if_neg e,if_neg (by omega),Zom]
   rfl
theorem Zqe:∀ (fs:List (Int×Int)),Z7 fs=pr (λp=>(Zlf fs p).2) fs.length
 | []=>rfl
 | x::t=>by
  rw[List.length_cons,Zmt];show x.2*Z7 t=_;rw[Zqe t];rfl
def Zok (a:Zg):Int×Int:=(ZH.Num (Zg.High a),ZH.Den (Zg.High a))
def fsL (b:Ze) (list:List Zg) (sup:List Int):List (Int×Int):=sup.map λx=>Zok (JG b list x)
theorem Zg6 (b:Ze) (list:List Zg) (sup:List Int):(fsL b list sup).length=sup.length:=by simp[fsL]
theorem Ztz {b:Ze} {list:List Zg} {sup:List Int} {p:Nat} {x:Int} (h:sup[p]?=some x):(fsL b list sup)[p]?=some (Zok (JG b list x)):=by
 unfold fsL;rw[List.getElem?_map,h];rfl
theorem ZjW {b:Ze} {list:List Zg} {sup:List Int} {p:Nat} {x:Int} (h:sup[p]?=some x):Zlf (fsL b list sup) p=Zok (JG b list x):=by
 unfold Zlf;rw[Ztz h];rfl
theorem ZkF {b:Ze} {list:List Zg} (ha:Zct b list) {sup:List Int} (hin:∀ x∈sup,x∈srcs b):Zx6 (fsL b list sup):=by
 intro y hy;obtain ⟨x,hx,rfl⟩:=List.mem_map.1 hy;obtain ⟨_,_,_,h3,_⟩:=Zla ha (hin x hx);obtain ⟨⟨⟨e1,_⟩,⟨e3,e4⟩,_⟩,d10,_⟩:=h3;exact ⟨e3,e4,e1,d10⟩
theorem Zwo {x:Int×Int} (h:0<=x.1/\x.1<=x.2/\1<=x.2/\x.2<=10):Wq (x.2-x.1)=x.2-x.1:=XG (by omega) (by omega)
theorem Zm9 {b:Ze} {s:List Bool×List Int} {list:List Zg} (ha:Zct b list) {sup:List Int} (hk:sup.length<=8) (hin:∀ x∈sup,x∈srcs b) {row:Nat} (hr:row<=1048576) (q:Nat) :
  V9 (chn b s list) sup (row:Int) (q:Int)=some (wWo (fsL b list sup) row q):=by
 have hfs:=ZkF ha hin;have hg:∀ i,0<=(if i=q then (1:Int) else fac (Zlf (fsL b list sup) i) (row / 2 ^ i))/\(if i=q then (1:Int) else fac (Zlf (fsL b list sup) i) (row / 2 ^ i))<=10:=λi=>by
  split
  ·omega
  ·exact Zrj (ZjX hfs i) _
 rw[ZwB,Zg6];unfold V9;refine YO (l:=sup) (λk=>(pr (λp=>if p=q then 1 else fac (Zlf (fsL b list sup) p) (row / 2 ^ p)) k,(k:Int),())) (λp x hx hp=>?_) ?_
 ·have e:ZgK (Ty.int IntKind.i64) Zy (YI.of (chn b s list)) x=some (JG b list x):=Zn9 ha (hin x (List.mem_of_getElem? hx))
  have hw:=Zzx hg (k:=p) (by omega);have hf:=ZjX hfs p;rw[ZjW hx] at hf;have hf2:=Zwo hf;simp only[Vp,show (p:Int)<(sup.length:Int) from by omega,if_true,Zo,hx,Bq,e,Option.getD_some,Int.toNat_natCast,Zn8 hr (show p<=8 by omega),Xj (show p<=1048576 by omega)];by_cases c:p=q
  ·subst c
   rw[if_pos rfl,<-hw,if_pos rfl,Int.mul_one,XG]
   ·have:=ZvL hg p;omega
   ·have:=ZvL hg p
    have:=ZvK (show p<=8 by omega);omega
  ·rw[if_neg (by omega),Zh (by omega),<-hw,if_neg c,ZjW hx]
   unfold fac;have hbit:row / 2 ^ p % 2=Qv row p:=rfl;rw[hbit];by_cases d:Qv row p=1
   ·rw[if_pos (by omega),if_pos d]
    rfl
   ·rw[if_neg (by omega),if_neg d]
    show some (Sum.inl (Wq (_*Wq ((Zok (JG b list x)).2-(Zok (JG b list x)).1)),_))=_;rw[hf2]
 ·simp only[Vp,Int.lt_irrefl,if_false]
theorem Zin {b:Ze} {s:List Bool×List Int} {list:List Zg} (ha:Zct b list) {sup:List Int} (hk:sup.length<=8) (hin:∀ x∈sup,x∈srcs b):Qn (chn b s list) sup (-1)=some (Z7 (fsL b list sup)):=by
 have hfs:=ZkF ha hin;have hg:∀ i,0<=(Zlf (fsL b list sup) i).2/\(Zlf (fsL b list sup) i).2<=10:=λi=>by have:=ZjX hfs i;omega
 rw[Zqe,Zg6];unfold Qn;refine YO (l:=sup) (λk=>(pr (λp=>(Zlf (fsL b list sup) p).2) k,(k:Int),())) (λp x hx hp=>?_) ?_
 ·have e:ZgK (Ty.int IntKind.i64) Zy (YI.of (chn b s list)) x=some (JG b list x):=Zn9 ha (hin x (List.mem_of_getElem? hx))
  have hw:=Zzx hg (k:=p) (by omega);simp only[Qh,show (p:Int)<(sup.length:Int) from by omega,if_true,Zo,hx,Bq,e,Option.getD_some,Xj (show p<=1048576 by omega)];rw[if_neg (by omega),<-hw,ZjW hx];rfl
 ·simp only[Qh,Int.lt_irrefl,if_false]
def fv (f:List Int) (i:Nat):Int:=(f[i]?).getD 0
theorem ZtA {f:List Int} {i:Nat} (h:i<f.length):f[i]?=some (fv f i):=by
 unfold fv;rw[List.getElem?_eq_getElem h];rfl
def ZqJ (fs:List (Int×Int)) (f:List Int) (q k:Nat):Int:=sumTo (λi=>if Qv i q=0/\fv f i≠fv f (i+2 ^ q) then wWo fs i q else 0) k
theorem Zun {fs:List (Int×Int)} (h:Zx6 fs) (hl:fs.length<=8) (f:List Int) (q k:Nat):0<=ZqJ fs f q k/\ZqJ fs f q k<=(k:Int)*100000000:=by
 refine Zlo λi hi=>?_;have h1:=ZwA h i q;have h2:=ZvK hl;split<;>omega
theorem Zio {b:Ze} {s:List Bool×List Int} {list:List Zg} (ha:Zct b list) {sup:List Int} (hk:sup.length<=8) (hin:∀ x∈sup,x∈srcs b) {f:List Int} (hf:f.length=2 ^ sup.length) {q:Nat} (hq:q<sup.length) :
  Qo (chn b s list) f sup (q:Int)=some (ZqJ (fsL b list sup) f q (2 ^ sup.length)):=by
 have hfs:=ZkF ha hin;have hp:=ZuW hk;have hql:2 ^ q<=256:=ZuW (by omega);unfold Qo;refine Ya (2 ^ sup.length) (λk w=>w=(ZqJ (fsL b list sup) f q k,(k:Int),())) _ rfl ?_ ?_
 ·rintro i _ hi rfl
  left;refine ⟨_,?_,rfl⟩;have hbd:=Zun hfs (by rw[Zg6];exact hk) f q (i+1);have hsuc:ZqJ (fsL b list sup) f q (i+1)=ZqJ (fsL b list sup) f q i+(if Qv i q=0/\fv f i≠fv f (i+2 ^ q) then wWo (fsL b list sup) i q else 0):=rfl;simp only[Qi,hf,show (i:Int)<((2 ^ sup.length:Nat):Int) from by omega,if_true,Zo,ZtA (show i<f.length by omega),Bq,Int.toNat_natCast,Zn8 (show i<=1048576 by omega) (show q<=8 by omega),ZsU (show q<=8 by omega),Xj (show i<=1048576 by omega)];rw[Zh (by omega)];by_cases c:Qv i q=0
  ·have hrl:=Zww hq hi c
   rw[if_pos (by omega),Zlv (by omega) (by omega),Zxn c,Zo,ZtA (show i+2 ^ q<f.length by omega),Bq];by_cases d:fv f i=fv f (i+2 ^ q)
   ·rw[if_pos d,hsuc,if_neg (λz=>z.2 d),Int.add_zero]
   ·rw[if_neg d,Zm9 ha hk hin (by omega) q,Bq,hsuc,if_pos ⟨c,d⟩]
    rw[hsuc,if_pos ⟨c,d⟩] at hbd;rw[XG (by omega) (by omega)]
  ·rw[if_neg (by omega),hsuc,if_neg (λz=>c z.1),Int.add_zero]
 ·rintro _ rfl
  simp only[Qi,hf,Int.lt_irrefl,if_false]
def chg (f:List Int) (q i:Nat):Prop:=fv f i≠fv f (if Qv i q=1 then i-2 ^ q else i+2 ^ q)
instance (f:List Int) (q i:Nat):Decidable (chg f q i):=by unfold chg;infer_instance
theorem ZAZ {f:List Int} {q i:Nat} (c:Qv i q=1):chg f q i<->fv f i≠fv f (i-2 ^ q):=by unfold chg;rw[if_pos c]
theorem ZAY {f:List Int} {q i:Nat} (c:¬Qv i q=1):chg f q i<->fv f i≠fv f (i+2 ^ q):=by unfold chg;rw[if_neg c]
theorem Zxs {b:Ze} {list:List Zg} {sup:List Int} {f:List Int} {q:Nat} {x:Int} (hx:sup[q]?=some x) :
  sumTo (λi=>if chg f q i then wOf (fsL b list sup) i else 0) (2 ^ sup.length)=ZqJ (fsL b list sup) f q (2 ^ sup.length)*(Zok (JG b list x)).2:=by
 have:=Zxl (Ztz (b:=b) (list:=list) hx) (fv f) (chg f q) (λi hi hb=>by
  constructor
  ·exact ZAY (by omega)
  ·rw[ZAZ (Zsa hb),Nat.add_sub_cancel]
   exact ⟨λz e=>z e.symm,λz e=>z e.symm⟩)
 rw[Zg6] at this;exact this
def part (b:Ze) (list:List Zg) (sup f:List Int) (p:Nat):Int:=match sup[p]? with
 | some x=>ZqJ (fsL b list sup) f p (2 ^ sup.length)*(Zok (JG b list x)).2*Zg.Zaw (JG b list x)
 | none=>0
theorem ZqD {b:Ze} {list:List Zg} (ha:Zct b list) {sup:List Int} (hk:sup.length<=8) (hin:∀ x∈sup,x∈srcs b) (f:List Int) {p:Nat} {x:Int} (hx:sup[p]?=some x) :
  part b list sup f p=ZqJ (fsL b list sup) f p (2 ^ sup.length)*(Zok (JG b list x)).2*Zg.Zaw (JG b list x)/\(0<=ZqJ (fsL b list sup) f p (2 ^ sup.length)*(Zok (JG b list x)).2/\ZqJ (fsL b list sup) f p (2 ^ sup.length)*(Zok (JG b list x)).2<=256000000000)/\
   0<=part b list sup f p/\part b list sup f p<=256000000000000:=by
 have hfs:=ZkF ha hin;have hp:=ZuW hk;have h1:=Zun hfs (by rw[Zg6];exact hk) f p (2 ^ sup.length);have h2:=hfs _ (List.mem_of_getElem? (Ztz (b:=b) (list:=list) hx));obtain ⟨_,_,_,h3,_⟩:=Zla ha (hin x (List.mem_of_getElem? hx));have h4:=h3.2.2;have e:part b list sup f p=ZqJ (fsL b list sup) f p (2 ^ sup.length)*(Zok (JG b list x)).2*Zg.Zaw (JG b list x):=by
  unfold part;rw[hx]
 have hs:ZqJ (fsL b list sup) f p (2 ^ sup.length)<=25600000000:=by omega
 generalize ZqJ (fsL b list sup) f p (2 ^ sup.length)=S at h1 hs e ⊢;have m1:0<=S*(Zok (JG b list x)).2:=Int.mul_nonneg h1.1 (by omega);have m2:S*(Zok (JG b list x)).2<=25600000000*10:=Int.mul_le_mul hs h2.2.2.2 (by omega) (by omega);have m3:0<=S*(Zok (JG b list x)).2*Zg.Zaw (JG b list x):=Int.mul_nonneg m1 h4.1;have m4:S*(Zok (JG b list x)).2*Zg.Zaw (JG b list x)<=25600000000*10*1000:=Int.mul_le_mul m2 h4.2 h4.1 (by omega);refine ⟨e,⟨m1,by omega⟩,by rw[e];exact m3,by rw[e];omega⟩
noncomputable def ZwS (b:Ze) (list:List Zg) (v:Nat):Option Int :=
 ZcP (sumTo (part b list (Zdg (Yc b) (ins b) v) (fnL b (Zdg (Yc b) (ins b) v) v)) (Zdg (Yc b) (ins b) v).length) (Z7 (fsL b list (Zdg (Yc b) (ins b) v))) 1
theorem Ztm (a c:Int):Zfy a c 1=ZcP a c 1:=by
 unfold Zfy ZcP;by_cases h:Int.tmod a c<0
 ·simp[h]
 ·simp[h]
theorem ZlA {b:Ze} {list:List Zg} (ha:Zct b list) {v:Nat} (hin:∀ x∈Zdg (Yc b) (ins b) v,x∈srcs b):∃ d,ZwS b list v=some d:=by
 have:=Zth (ZkF ha hin);unfold ZwS ZcP;rw[Zh (by omega)];split
 ·split
  ·exact ⟨_,rfl⟩
  ·split
   ·split<;>exact ⟨_,rfl⟩
   ·exact ⟨_,rfl⟩
 ·split
  ·split<;>exact ⟨_,rfl⟩
  ·exact ⟨_,rfl⟩
theorem ZrS {b:Ze} {list:List Zg} (ha:Zct b list) {sup:List Int} (hk:sup.length<=8) (hin:∀ x∈sup,x∈srcs b) (f:List Int):∀ k,k<=sup.length->0<=sumTo (part b list sup f) k/\sumTo (part b list sup f) k<=(k:Int)*256000000000000:=λk hkl=>by
 refine Zlo λi hi=>?_;have hx:sup[i]?=some (sup[i]'(by omega)):=List.getElem?_eq_getElem _;exact (ZqD ha hk hin f hx).2.2
theorem ZlQ {b:Ze} {s:List Bool×List Int} (h:Lgc b s) {list:List Zg} (ha:Zct b list) {v:Nat} (hv:v<Yc b) :
  (8<(Zdg (Yc b) (ins b) v).length->Qx (chn b s list) (v:Int)=some (0,false))/\((Zdg (Yc b) (ins b) v).length<=8->∀ d,ZwS b list v=some d->Qx (chn b s list) (v:Int)=some (d,true)):=by
 have hin:∀ x∈Zdg (Yc b) (ins b) v,x∈srcs b:=λx hx=>ZiQ h.blk hv hx;have ef:=ZkR h hv;unfold Qx;rw[show YI.logic (chn b s list)=(b,gates b,s.2,()) from rfl];constructor
 ·intro q
  rw[if_pos q] at ef;rw[ef];rfl
 ·intro q d hd
  rw[if_neg (by omega)] at ef;rw[ef,Bq];simp only[if_true];unfold ZwS at hd;have hlen:=ZjU b (Zdg (Yc b) (ins b) v) v;generalize hsup:Zdg (Yc b) (ins b) v=sup at hin q hd hlen;generalize fnL b sup v=f at hd hlen;refine YO (l:=sup) (λk=>(sumTo (part b list sup f) k,(k:Int),())) (λp x hx hp=>?_) ?_
  ·have e:ZgK (Ty.int IntKind.i64) Zy (YI.of (chn b s list)) x=some (JG b list x):=Zn9 ha (hin x (List.mem_of_getElem? hx))
   obtain ⟨p1,p2,p3,p4⟩:=ZqD ha q hin f hx;have hb2:=ZrS ha q hin f (p+1) (by omega);have hsuc:sumTo (part b list sup f) (p+1)=sumTo (part b list sup f) p+part b list sup f p:=rfl;rw[hsuc] at hb2;simp only[Q8,show (p:Int)<(sup.length:Int) from by omega,if_true,Zo,hx,Bq,e,Option.getD_some,Zio ha q hin hlen hp,Xj (show p<=1048576 by omega)];show some (Sum.inl (Wq (_+Wq (Wq (_*(Zok (JG b list x)).2)*_)),_))=_;rw[XG (n:=ZqJ (fsL b list sup) f p (2 ^ sup.length)*(Zok (JG b list x)).2) (by omega) (by omega),<-p1,XG (n:=part b list sup f p) (by omega) (by omega),XG (by omega) (by omega),hsuc]
  ·simp only[Q8,Int.lt_irrefl,if_false,Zin ha q hin,Bq,Ztm,hd]
theorem Zsr {b:Ze} (h:Va b) {v:Nat} {w:ZJ} (hw:(Ze.QZ b)[v]?=some w):Zco b (v:Int)=YT b (v:Int):=by
 have hf:=h.ok.1.few;unfold Zco YT;rw[Zo,hw,Bq,Bq,show Zho (ZJ.Cap w)=Qe (ZJ.Cap w) from rfl,Zat _ hf,Vf _ hf,Zgb _ _ hf,ZdC _ _ hf];refine congrArg (Option.bind _) ?_;funext l;rw[Bq,Bq,Bq,Bq];refine congrArg (λf=>Zn f _) ?_;funext u;obtain ⟨i,l,⟨⟩⟩:=u;simp only[Zel,X0];split
 ·cases atI (Zhm (Ze.Design b) (v:Int)) i with
  | none =>
   cases atI (ZJ.Zkx w) i with
   | none=>rfl
   | some z =>
    simp only[Bq,Option.bind_none];cases atI l z<;>rfl
  | some y =>
   cases atI (ZJ.Zkx w) i with
   | none=>rfl
   | some z =>
    simp only[Bq];cases atI l z with
    | none=>rfl
    | some q=>rfl
 ·rfl
noncomputable def Zvx (b:Ze) (v:Nat):Int:=match YT b (v:Int) with
 | some r=>(r[0]?).getD 0
 | none=>0
theorem ZtU {b:Ze} (h:Va b) {v:Nat} (hv:v<Yc b):∃ r,YT b (v:Int)=some r/\Zco b (v:Int)=some r/\atI r 0=some (Zvx b v):=by
 have hwl:(Ze.QZ b).length=Yc b:=h.ok.2.1;have hw:(Ze.QZ b)[v]?=some ((Ze.QZ b)[v]'(by omega)):=List.getElem?_eq_getElem _;obtain ⟨r,e,hl⟩:=ZoG h hw;have h1:=(h.ok.2.2 v _ hw).1.1;refine ⟨r,e,by rw[Zsr h hw,e],?_⟩;unfold Zvx;rw[e];simp only;show atI r ((0:Nat):Int)=_;rw[Zo,List.getElem?_eq_getElem (by omega)];rfl
noncomputable def ZoK (b:Ze) (list:List Zg) (v:Nat):Int:=if 8<(Zdg (Yc b) (ins b) v).length then Zwh b list (Zdg (Yc b) (ins b) v) else (ZwS b list v).getD 0
noncomputable def Zxf (b:Ze) (list:List Zg) (v:Nat):Int:=Wq (ZoK b list v*Zvx b v)
noncomputable def ZkI (b:Ze) (list:List Zg):List Int:=(List.range (Yc b)).map (ZoK b list)
noncomputable def ZpH (b:Ze) (list:List Zg):List Int:=(List.range (Yc b)).map (Zxf b list)
theorem ZnU (b:Ze) (list:List Zg):(ZkI b list).length=Yc b:=by simp[ZkI]
theorem Zjz (b:Ze) (list:List Zg):(ZpH b list).length=Yc b:=by simp[ZpH]
theorem Zuh (b:Ze) (list:List Zg) {v:Nat} (hv:v<Yc b):(ZkI b list)[v]?=some (ZoK b list v):=by
 unfold ZkI;rw[List.getElem?_map,List.getElem?_range hv];rfl
theorem ZrU (b:Ze) (list:List Zg) {v:Nat} (hv:v<Yc b):(ZpH b list)[v]?=some (Zxf b list v):=by
 unfold ZpH;rw[List.getElem?_map,List.getElem?_range hv];rfl
theorem ZyM {α:Type} {l:List α} {i:Nat} {x:α} (h:l[i]?=some x):l.set i x=l:=by
 apply List.ext_getElem?;intro w;rw[List.getElem?_set];split
 ·rename_i e;subst e;rw[if_pos (List.getElem?_eq_some_iff.1 h).1,h]
 ·rfl
theorem Zue {b:Ze} {s:List Bool×List Int} (h:Lgc b s) {list:List Zg} (ha:Zct b list):V8 (chn b s list)=some (ZkI b list,ZpH b list):=by
 have hn:=Qt h.blk;obtain ⟨out,e,ho,ho2⟩:=ZmP h;unfold V8;rw[show YI.logic (chn b s list)=(b,gates b,s.2,()) from rfl,e,Bq];refine Ya (Yc b) (λk w=>w=((ZkI b list).take k,(ZpH b list).take k,(k:Int),out,())) _ rfl ?_ ?_
 ·rintro v _ hv rfl
  left;refine ⟨_,?_,rfl⟩;have hin:∀ x∈Zdg (Yc b) (ins b) v,x∈srcs b:=λx hx=>ZiQ h.blk hv hx;obtain ⟨d1,d2⟩:=ZlQ h ha hv;obtain ⟨r,l1,_,l3⟩:=ZtU h.blk hv;have g1:∀ x:Int,((List.take v (ZkI b list)).length+[x].length)*8<=140737488355328:=λx=>by
   rw[List.length_take,ZnU];simp only[List.length_cons,List.length_nil];omega
  have g2:∀ x:Int,((List.take v (ZpH b list)).length+[x].length)*8<=140737488355328:=λx=>by
   rw[List.length_take,Zjz];simp only[List.length_cons,List.length_nil];omega
  have hblk:YA.Block (YI.logic (chn b s list))=b:=rfl;simp only[Vo,ho,show (v:Int)<(Yc b:Int) from by omega,if_true,Zo,ho2 v hv,Bq,Int.toNat_natCast,ZyM (ho2 v hv),Xj (show v<=1048576 by omega),hblk,l1,l3];rw[Yp (Zuh b list hv),Yp (ZrU b list hv)];by_cases q:8<(Zdg (Yc b) (ins b) v).length
  ·have hr:ZoK b list v=Zwh b list (Zdg (Yc b) (ins b) v):=by unfold ZoK;rw[if_pos q]
   rw[d1 q,Bq,if_neg (by decide),Zoo ha (by have:=Zlq (Yc b) (ins b) v;omega) hin,Bq,Zh (g1 _),Zh (g2 _)];unfold Zxf;rw[hr]
  ·obtain ⟨d,hd⟩:=ZlA ha hin
   have hr:ZoK b list v=d:=by unfold ZoK;rw[if_neg q,hd];rfl
   rw[d2 (by omega) d hd,Bq,if_pos rfl,Zh (g1 _),Zh (g2 _)];unfold Zxf;rw[hr]
 ·rintro _ rfl
  simp only[Vo,ho,Int.lt_irrefl,if_false];rw[List.take_of_length_le (by rw[ZnU];omega),List.take_of_length_le (by rw[Zjz];omega)]
theorem ZFw (b:Ze) (hb:sm Yz b) (list:List Zg) (hl:list.length<=1048576) :
  (∃ c,c≠0/\ZcZ b list []=some (none,c)/\ZEM b list=some c)\/∃ s,Lgc b s/\Zct b list/\ZcZ b list []=some (some (chn b s list),0)/\ZEM b list=some 0:=by
 unfold ZEM;rw[ZnK b hb,Bq,ZhQ b hb list hl];rcases Zst b hb [] (by simp) with ⟨q,e⟩ | ⟨s,hs,q,hc⟩
 ·left
  refine ⟨Zkl b,q,?_,by rw[if_neg q]⟩;unfold ZcZ;rw[e,Bq,if_neg q]
 ·rcases hc with ⟨_,e⟩ | ⟨w,_⟩
  ·have ec:=Zpb hs list hl e
   rw[if_pos q,Bq];by_cases z:Zct b list
   ·right
    exact ⟨s,hs,z,by rw[ec,if_pos (Yt z)],by rw[if_pos (Yt ⟨q,z⟩),q]⟩
   ·left
    exact ⟨5,by omega,by rw[ec,if_neg (λx=>z ((Xn _).1 x))],by rw[if_neg (λx=>z ((Xn _).1 x).2)]⟩
  ·exact absurd (show Ze7 [] 0 ((Yc b:Int)-1) from λx hx=>by cases hx) w
noncomputable def shr (b:Ze) (list:List Zg) (v:Nat):NS:=((v:Int),Zxf b list v,())
noncomputable def ZqM (b:Ze) (list:List Zg) (n:Nat):List NS:=(List.range n).map (shr b list)
theorem ZhF (b:Ze) (list:List Zg) (n:Nat):(ZqM b list n).length=n:=by simp[ZqM]
theorem Zxp (b:Ze) (list:List Zg) {n v:Nat} (hv:v<n):(ZqM b list n)[v]?=some (shr b list v):=by
 unfold ZqM;rw[List.getElem?_map,List.getElem?_range hv];rfl
theorem ZpM (b:Ze) (list:List Zg) (n:Nat):ZqM b list (n+1)=ZqM b list n++[shr b list n]:=by
 unfold ZqM;rw[List.range_succ,List.map_append];rfl
theorem ZrZ (b:Ze) (list:List Zg) (n:Nat):Idx 0 (ZqM b list n):=λk x hk=>by
 have hkn:=(List.getElem?_eq_some_iff.1 hk).1;rw[ZhF] at hkn;rw[Zxp b list hkn] at hk;injection hk with hk
 subst hk;show (k:Int)=_;omega
theorem ZwQ {α:Type} (l:List α) {c:Int} (h0:0<=c) (h1:c<=30):List.take (Int.toNat (Min.min c (l.length:Int))-Int.toNat (0:Int)) (List.drop (Int.toNat (0:Int)) l)=l.take c.toNat:=by
 show List.take (Int.toNat (Min.min c (l.length:Int))-0) l=_;rw[Nat.sub_zero];by_cases q:c<=(l.length:Int)
 ·rw[show Min.min c (l.length:Int)=c by omega]
 ·rw[show Min.min c (l.length:Int)=(l.length:Int) by omega,Int.toNat_natCast,List.take_length,List.take_of_length_le (by omega)]
theorem Zvl (b:Ze) (list:List Zg) (count:Int) (hc:0<=count/\count<=30) (hn:Yc b<=30) :
  ∃ L:List NS,Zn (λv=>QV count (ZkI b list,ZpH b list) v.1 v.2.1) (([]:List Zj),(0:Int),())=some (L.take count.toNat,0)/\L.Perm (ZqM b list (Yc b))/\L.Pairwise RS:=by
 obtain ⟨L,h1,h2,h3⟩:=Zuu (ZqM b list (Yc b)) (by rw[ZhF];omega) (ZrZ b list _);refine ⟨L,?_,h2,h3⟩;refine Ya (Yc b) (λk v=>v.1=ZqM b list k/\v.2.1=(k:Int)) _ ⟨rfl,rfl⟩ ?_ ?_
 ·rintro k ⟨out,i,⟨⟩⟩ hk ⟨ho,hi⟩
  simp only at ho hi;subst ho;subst hi;left;refine ⟨(ZqM b list (k+1),((k+1:Nat):Int),()),?_,rfl,rfl⟩;dsimp only;unfold QV;rw[if_pos (by dsimp only;rw[Zjz];omega),Zo,ZrU b list hk,Bq,Zh (by rw[ZhF];simp;omega),XG (by omega) (by omega),ZpM];rfl
 ·rintro ⟨out,i,⟨⟩⟩ ⟨ho,hi⟩
  simp only at ho hi;subst ho;subst hi;dsimp only;unfold QV;have hl:L.length=Yc b:=by rw[h2.length_eq,ZhF]
  have e:Vq L=some (L.length:Int):=rfl;rw[if_neg (by dsimp only;rw[Zjz];omega),h1,Bq,e,Bq,Zh (by omega),Zh (by omega),ZwQ L hc.1 hc.2]
def ZE2:List Int->Int
 | []=>0
 | x::r=>x+ZE2 r
theorem ZE7:∀ l r:List Int,ZE2 (l++r)=ZE2 l+ZE2 r
 | [],r=>by show ZE2 r=0+ZE2 r;omega
 | x::l,r=>by
  show x+ZE2 (l++r)=x+ZE2 l+ZE2 r;rw[ZE7 l r];omega
theorem ZFj:∀ {l:List Int} {i:Nat} {x:Int} (c:Int),l[i]?=some x->ZE2 (l.set i (x+c))=ZE2 l+c
 | [],i,x,c,h=>by simp at h
 | y::l,0,x,c,h=>by
  have:y=x:=by simpa using h
  subst this;show y+c+ZE2 l=y+ZE2 l+c;omega
 | y::l,i+1,x,c,h=>by
  show y+ZE2 (l.set i (x+c))=y+ZE2 l+c;rw[ZFj c (by simpa using h)];omega
theorem ZFi:∀ {l:List Int},(∀ x∈l,0<=x)->0<=ZE2 l/\∀ x∈l,x<=ZE2 l
 | [],_=>⟨Int.le_refl _,λx hx=>by cases hx⟩
 | y::l,h=>by
  obtain ⟨h1,h2⟩:=ZFi (l:=l) λx hx=>h x (List.mem_cons_of_mem _ hx);have hy:=h y List.mem_cons_self;refine ⟨by show 0<=y+ZE2 l;omega,λx hx=>?_⟩;show x<=y+ZE2 l;rcases List.mem_cons.1 hx with rfl | hx
  ·omega
  ·have:=h2 x hx;omega
theorem ZGl:∀ {l:List Int} {c:Int},(∀ x∈l,x<=c)->ZE2 l<=(l.length:Int)*c
 | [],c,_=>by show (0:Int)<=((0:Nat):Int)*c;simp
 | y::l,c,h=>by
  have h1:=ZGl (l:=l) (c:=c) λx hx=>h x (List.mem_cons_of_mem _ hx);have h2:=h y List.mem_cons_self;show y+ZE2 l<=((l.length+1:Nat):Int)*c;rw[show ((l.length+1:Nat):Int)=(l.length:Int)+1 by omega,Int.add_mul,Int.one_mul];omega
theorem ZE3 {l:List Int} {i:Nat} {x y:Int} (h:y∈l.set i x):y=x\/y∈l:=(List.mem_or_eq_of_mem_set h).symm
theorem ZFt {a:Zt} {d:Zc} (h:Zab a d) {x:Pl} (hx:x∈Xq d):∃ n,Zah d a x=some n/\0<=n/\n<=500:=by
 unfold Zah;split
 ·exact ⟨_,rfl,by omega,by omega⟩
 ·rename_i hneg
  unfold Xq at hx;rcases List.mem_append.1 hx with hx | hx
  ·obtain ⟨i,z,hi,hz⟩:=ZcI.1 hx
   unfold Zfc at hz;obtain ⟨j,n,hj,hn⟩:=ZcI.1 hz;simp only[List.mem_singleton] at hn;subst hn;rw[Nat.zero_add] at hneg;obtain ⟨hc,⟨c,hc1,hc2⟩,_⟩:=h.2.2.1 z (List.mem_of_getElem? hi);have hj2:=(List.getElem?_eq_some_iff.1 hj).1;have hpins:=(h.1.2.1 c (List.mem_of_getElem? hc1)).2.1;simp only[Qg.instance,Qg.pin,Nat.zero_add,Zo,hi,Bq];rw[ZcU hc.1 hc1,Bq];have hp:(Zm.YR c)[j]?=some (Zm.YR c)[j]:=List.getElem?_eq_getElem (by omega);rw[hp,Bq];have hb:=(hpins.2.2.2 j _ hp).1;exact ⟨_,rfl,hb.1,hb.2⟩
  ·obtain ⟨j,p,hj,hp⟩:=ZcI.1 hx
   simp only[Zf8,List.mem_singleton] at hp;subst hp;exact absurd (by show (-1:Int)<0;omega) hneg
theorem ZFs {b:Ze} (h:Va b) {k:Nat} {w:ZJ} (hw:(Ze.QZ b)[k]?=some w):∃ r,YT b (k:Int)=some r/\r.length=(ZJ.Parent w).length/\∀ x∈r,0<=x/\x<=43000:=by
 have hW:=h.ok.2.2 k w hw;have hD:=h.ok.1;have hf:=hD.few;obtain ⟨⟨l1,l8⟩,lr,lc,ls,ht,ar,ac,asn⟩:=hW;have hpl:=ZdT hf;have hsl:=ZmC (k:Int) (Xq (Ze.Design b)) 0;have hsl2:(Zhm (Ze.Design b) (k:Int)).length<=78:=by unfold Zhm;omega
 have hc0:ZE2 (ZJ.Cap w)<=4000:=by
  have:=ZGl (l:=ZJ.Cap w) (c:=500) λx hx=>(ac x hx).2;omega
 unfold YT;rw[Zo,hw,Bq];unfold Qe;rw[Zh (by simp;omega),Bq,Vf _ hf,Bq,ZdC _ _ hf,Bq,List.nil_append];refine Zw6 (l:=Zhm (Ze.Design b) (k:Int)) (λm v=>v.1=(m:Int)/\v.2.1.length=(ZJ.Parent w).length/\(∀ x∈v.2.1,0<=x)/\ZE2 v.2.1<=4000+(m:Int)*500) _ ⟨rfl,by simp;omega,λx hx=>(ac x hx).1,by simp only;omega⟩ ?_ ?_
 ·rintro m y ⟨i,l,⟨⟩⟩ hy hm ⟨hi,hl,hnn,hsum⟩
  simp only at hi hl hnn hsum;subst hi;have hz:(ZJ.Zkx w)[m]?=some (ZJ.Zkx w)[m]:=List.getElem?_eq_getElem (by omega);generalize (ZJ.Zkx w)[m]=z at hz;have hz2:=asn z (List.mem_of_getElem? hz);obtain ⟨q,hq1,hq2⟩:=ZwI (l:=l) hz2.1 (by omega);obtain ⟨hy1,hy2⟩:=ZtZ (List.mem_of_getElem? hy);obtain ⟨p,hp1,hp2⟩:=ZwI hy1 hy2;obtain ⟨c,hc,c0,c5⟩:=ZFt hD hp2;have hq0:=hnn q hq2;have hqs:=(ZFi hnn).2 q hq2;have hq3:l[z.toNat]?=some q:=by
   unfold atI at hq1;rw[if_pos hz2.1] at hq1;exact hq1
  simp only[X0,show (m:Int)<((Zhm (Ze.Design b) (k:Int)).length:Int) from by omega,if_true,Zo,hy,hz,Bq,hq1,hp1,hc];rw[XG (n:=q+c) (by omega) (by omega)];refine ⟨_,rfl,by rw[Xj (by omega)],by simp[hl],λx hx=>?_,?_⟩
  ·rcases ZE3 hx with rfl | hx
   ·omega
   ·exact hnn x hx
  ·simp only
   rw[ZFj c hq3];omega
 ·rintro ⟨i,l,⟨⟩⟩ ⟨hi,hl,hnn,hsum⟩
  simp only at hi hl hnn hsum;subst hi;simp only[X0,Int.lt_irrefl,if_false];have hT:ZE2 l<=43000:=by omega
  have hall:∀ x∈l,0<=x/\x<=43000:=λx hx=>⟨hnn x hx,by have:=(ZFi hnn).2 x hx;omega⟩;have:=VR (σ:=Int×List Int×Unit) (ρ:=(Int×List Int×Unit) ⊕ List Int) (step:=λv=>Q5 w v.1 v.2.1) (λv=>(∃ j:Nat,v.1=(j:Int)/\j<(ZJ.Parent w).length/\ZE2 (v.2.1.take (j+1))<=43000)/\v.2.1.length=(ZJ.Parent w).length/\∀ x∈v.2.1,0<=x/\x<=43000) (λv=>v.1.toNat) (λr=>∃ r',r=.inr r'/\r'.length=(ZJ.Parent w).length/\∀ x∈r',0<=x/\x<=43000) (v:=(Wq ((l.length:Int)-1),l,()))
   ⟨⟨l.length-1,by show Wq _=_;rw[Zky (by omega) (by omega)],by omega,by simp only;rw[List.take_of_length_le (by omega)];exact hT⟩,hl,hall⟩
   (by
    rintro ⟨i,l,⟨⟩⟩ ⟨⟨j,hj,hj2,hjs⟩,hl,hall⟩;simp only at hj hl hjs hall;subst hj;simp only[Q5];by_cases h0:(0:Int)<(j:Int)
    ·rw[if_pos h0]
     have hp:(ZJ.Parent w)[j]?=some (ZJ.Parent w)[j]:=List.getElem?_eq_getElem (by omega);generalize (ZJ.Parent w)[j]=p at hp;have hp2:=(ht j p hp).2 (by omega);obtain ⟨q,hq1,hq2⟩:=ZwI (l:=l) hp2.1 (by omega);have hq3:l[p.toNat]?=some q:=by
      unfold atI at hq1;rw[if_pos hp2.1] at hq1;exact hq1
     have hl2:l[j]?=some l[j]:=List.getElem?_eq_getElem (by omega);generalize l[j]=y at hl2;have hy:=hall y (List.mem_of_getElem? hl2);have hq:=hall q hq2;simp only[Zo,hp,Bq,hq1,hl2];rw[XG (n:=q+y) (by omega) (by omega)];have hqt:(l.take j)[p.toNat]?=some q:=by rw[List.getElem?_take,if_pos (by omega)];exact hq3
     have hnew:ZE2 ((l.set p.toNat (q+y)).take j)<=43000:=by
      rw[List.take_set,ZFj y hqt];rw[Yp hl2,ZE7] at hjs;have:ZE2 [y]=y:=by show y+0=y;omega
      omega
     have hnn2:∀ x∈(l.set p.toNat (q+y)).take j,0<=x:=λx hx=>by
      rcases ZE3 (List.mem_of_mem_take hx) with rfl | hx
      ·omega
      ·exact (hall x hx).1
     have hqy:q+y<=43000:=by
      have hmem:q+y∈(l.set p.toNat (q+y)).take j:=by
       refine List.mem_of_getElem? (i:=p.toNat) ?_;rw[List.getElem?_take,if_pos (by omega),List.getElem?_set_self (by omega)]
      have:=(ZFi hnn2).2 _ hmem;omega
     left;refine ⟨_,rfl,⟨⟨j-1,by rw[Zky (by omega) (by omega)],by omega,?_⟩,by simp[hl],λx hx=>?_⟩,?_⟩
     ·simp only
      rw[show j-1+1=j by omega];exact hnew
     ·rcases ZE3 hx with rfl | hx
      ·exact ⟨by omega,hqy⟩
      ·exact hall x hx
     ·show (Wq ((j:Int)-1)).toNat<((j:Int)).toNat
      rw[Zky (by omega) (by omega)];omega
    ·rw[if_neg h0]
     right;exact ⟨_,rfl,_,rfl,hl,hall⟩)
  obtain ⟨r,h1,r',rfl,h3⟩:=this;exact ⟨r',h1,h3⟩
theorem ZFv (g:Nat->Int):∀ m,sumTo g (2*m)=sumTo (λj=>g (2*j)+g (2*j+1)) m
 | 0=>rfl
 | m+1=>by
  have ih:=ZFv g m;show sumTo g (2*m+1+1)=sumTo (λj=>g (2*j)+g (2*j+1)) m+(g (2*m)+g (2*m+1));show sumTo g (2*m)+g (2*m)+g (2*m+1)=_;omega
theorem sumTo_le {g h:Nat->Int}:∀ {k:Nat},(∀ i,i<k->g i<=h i)->sumTo g k<=sumTo h k
 | 0,_=>Int.le_refl _
 | k+1,e=>by
  have:=sumTo_le (g:=g) (h:=h) (k:=k) λi hi=>e i (by omega);have:=e k (by omega);show sumTo g k+g k<=sumTo h k+h k;omega
theorem ZGH:∀ fs:List (Int×Int),sumTo (wOf fs) (2 ^ fs.length)=Z7 fs
 | []=>rfl
 | x::t=>by
  rw[show 2 ^ (x::t).length=2*2 ^ t.length by rw[List.length_cons,Nat.pow_succ];omega,ZFv];have:sumTo (λj=>wOf (x::t) (2*j)+wOf (x::t) (2*j+1)) (2 ^ t.length)=sumTo (λj=>wOf t j*x.2) (2 ^ t.length):=sumTo_congr λj _=>by
   show fac x (2*j)*wOf t (2*j / 2)+fac x (2*j+1)*wOf t ((2*j+1) / 2)=wOf t j*x.2;rw[show 2*j / 2=j by omega,show (2*j+1) / 2=j by omega];unfold fac;rw[if_neg (by omega),if_pos (by omega),<-Int.add_mul,Int.mul_comm];congr 1;omega
  rw[this,ZmO,ZGH t,Int.mul_comm];rfl
theorem ZGz {b:Ze} {list:List Zg} (ha:Zct b list) {sup:List Int} (hk:sup.length<=8) (hin:∀ x∈sup,x∈srcs b) (f:List Int) {p:Nat} {x:Int} (hx:sup[p]?=some x):part b list sup f p<=Z7 (fsL b list sup)*1000:=by
 obtain ⟨e,⟨h1,_⟩,_,_⟩:=ZqD ha hk hin f hx;obtain ⟨_,_,_,h3,_⟩:=Zla ha (hin x (List.mem_of_getElem? hx));have h4:=h3.2.2;have hfs:=ZkF ha hin;have hs:ZqJ (fsL b list sup) f p (2 ^ sup.length)*(Zok (JG b list x)).2<=Z7 (fsL b list sup):=by
  rw[<-Zxs hx,<-ZGH (fsL b list sup),Zg6];refine sumTo_le λi _=>?_;split
  ·exact Int.le_refl _
  ·exact (ZuN hfs i).1
 rw[e];exact Int.mul_le_mul hs h4.2 h4.1 (by have:=Zth hfs;omega)
theorem ZGt {b:Ze} {list:List Zg} (ha:Zct b list) {sup:List Int} (hk:sup.length<=8) (hin:∀ x∈sup,x∈srcs b) (f:List Int):∀ k,k<=sup.length->0<=sumTo (part b list sup f) k/\sumTo (part b list sup f) k<=(k:Int)*(Z7 (fsL b list sup)*1000):=λk hkl=>by
 refine Zlo λi hi=>?_;have hx:sup[i]?=some (sup[i]'(by omega)):=List.getElem?_eq_getElem _;exact ⟨(ZqD ha hk hin f hx).2.2.1,ZGz ha hk hin f hx⟩
theorem ZGF {s D d:Int} (h0:0<=s) (hD:1<=D) (hs:s<=D*8000) (hD2:D<=100000000) (h:ZcP s D 1=some d):0<=d/\d<=8000:=by
 unfold ZcP at h;rw[Zh (by omega)] at h;have e1:Int.tdiv s D=s / D:=by rw[Int.tdiv_eq_ediv_of_nonneg h0]
 have e2:Int.tmod s D=s % D:=by rw[Int.tmod_eq_emod_of_nonneg h0]
 have m0:=Int.emod_nonneg s (show D≠0 by omega);have m1:=Int.mul_ediv_add_emod s D;have q0:0<=s / D:=Int.ediv_nonneg h0 (by omega);have q1:s / D<=8000:=Int.ediv_le_of_le_mul (by omega) (by rw[Int.mul_comm];exact hs);rw[e1,e2,XG (n:=s / D) (by omega) (by omega)] at h;rw[if_neg (by omega)] at h;by_cases c:0<s % D
 ·rw[if_pos c,if_pos rfl] at h
  have q2:s / D<8000:=by
   rcases Int.lt_or_eq_of_le q1 with q | q
   ·exact q
   ·rw[q] at m1
    omega
  rw[XG (by omega) (by omega)] at h;injection h with h
  omega
 ·rw[if_neg c] at h
  injection h with h
  omega
theorem ZGn {b:Ze} {s:List Bool×List Int} (h:Lgc b s) {list:List Zg} (ha:Zct b list) {v:Nat} (hv:v<Yc b):0<=ZoK b list v/\ZoK b list v<=30000:=by
 have hn:=Qt h.blk;have hl:=Zlq (Yc b) (ins b) v;have hin:∀ x∈Zdg (Yc b) (ins b) v,x∈srcs b:=λx hx=>ZiQ h.blk hv hx;unfold ZoK;by_cases c:8<(Zdg (Yc b) (ins b) v).length
 ·rw[if_pos c]
  unfold Zwh;generalize Zdg (Yc b) (ins b) v=l at hl hin;have key:∀ (r:List Int) (m:Int),(∀ x∈r,x∈srcs b)->0<=m->m+(r.length:Int)*1000<=1000000->0<=r.foldl (λm x=>Wq (m+Zg.Zaw (JG b list x))) m/\r.foldl (λm x=>Wq (m+Zg.Zaw (JG b list x))) m<=m+(r.length:Int)*1000:=by
   intro r;induction r with
   | nil=>intro m _ h0 _;exact ⟨h0,by simp⟩
   | cons x r ih =>
    intro m hr h0 h1;obtain ⟨_,_,_,h3,_⟩:=Zla ha (hr x (by simp));have h4:=h3.2.2;rw[List.length_cons] at h1;rw[List.foldl_cons,XG (by omega) (by omega)];have:=ih (m+Zg.Zaw (JG b list x)) (λy hy=>hr y (List.mem_cons_of_mem _ hy)) (by omega) (by omega);rw[List.length_cons];omega
  have:=key l 0 hin (by omega) (by omega);omega
 ·rw[if_neg c]
  obtain ⟨d,hd⟩:=ZlA ha hin;rw[hd];have hfs:=ZkF ha hin;have hd1:=Zth hfs;rw[Zg6] at hd1;have hd8:=ZvK (k:=(Zdg (Yc b) (ins b) v).length) (by omega);have hp:=ZGt ha (by omega) hin (fnL b (Zdg (Yc b) (ins b) v) v) _ (Nat.le_refl _);unfold ZwS at hd;have:=ZGF hp.1 hd1.1 (by
   have:((Zdg (Yc b) (ins b) v).length:Int)*(Z7 (fsL b list (Zdg (Yc b) (ins b) v))*1000)<=8*(Z7 (fsL b list (Zdg (Yc b) (ins b) v))*1000):=Int.mul_le_mul_of_nonneg_right (by omega) (by omega);omega) (by omega) hd
  show 0<=d/\d<=30000;omega
theorem ZGy {b:Ze} (h:Va b) {v:Nat} (hv:v<Yc b):0<=Zvx b v/\Zvx b v<=43000:=by
 have hwl:(Ze.QZ b).length=Yc b:=h.ok.2.1;have hw:(Ze.QZ b)[v]?=some ((Ze.QZ b)[v]'(by omega)):=List.getElem?_eq_getElem _;obtain ⟨r,e,hl,hb⟩:=ZFs h hw;unfold Zvx;rw[e];simp only;cases hr:r[0]? with
 | none=>exact ⟨by decide,by decide⟩
 | some x=>exact hb x (List.mem_of_getElem? hr)
theorem ZGw {b:Ze} {s:List Bool×List Int} (h:Lgc b s) {list:List Zg} (ha:Zct b list) {v:Nat} (hv:v<Yc b):0<=Zxf b list v/\Zxf b list v<=1290000000:=by
 have h1:=ZGn h ha hv;have h2:=ZGy h.blk hv;have m0:=Int.mul_nonneg h1.1 h2.1;have m1:ZoK b list v*Zvx b v<=30000*43000:=Int.mul_le_mul h1.2 h2.2 h2.1 (by omega);unfold Zxf;rw[XG (by omega) (by omega)];omega
def ZD7 {α:Type} (o:Option α) (Q:α->Prop):Prop:=∃ a,o=some a/\Q a
theorem ZD7.ret {α:Type} {a:α} {Q:α->Prop} (h:Q a):ZD7 (some a) Q:=⟨a,rfl,h⟩
theorem ZD7.bind {α β:Type} {o:Option α} {P:α->Prop} {f:α->Option β} {Q:β->Prop} (h:ZD7 o P) (k:∀ a,P a->ZD7 (f a) Q):ZD7 (o.bind f) Q:=by
 obtain ⟨a,e,hp⟩:=h;rw[e];exact k a hp
theorem ZD7.guard {α:Type} {p:Prop} {o:Option α} {Q:α->Prop} (h:p) (k:ZD7 o Q):ZD7 (Zu p o) Q:=by rw[Zh h];exact k
theorem ZD7.ite {α:Type} {p:Prop} [Decidable p] {a b:Option α} {Q:α->Prop} (h1:p->ZD7 a Q) (h2:¬p->ZD7 b Q):ZD7 (if p then a else b) Q:=by
 split
 ·exact h1 (by assumption)
 ·exact h2 (by assumption)
theorem ZD7.at {α β:Type} {l:List α} {i:Int} {f:α->Option β} {Q:β->Prop} (h0:0<=i) (h1:i<(l.length:Int)) (k:∀ x,x∈l->l[i.toNat]?=some x->ZD7 (f x) Q):ZD7 ((atI l i).bind f) Q:=by
 obtain ⟨x,e,hx⟩:=Zq2 h0 h1;rw[e];exact k x (List.mem_of_getElem? hx) hx
theorem ZD7.mono {α:Type} {o:Option α} {P Q:α->Prop} (h:ZD7 o P) (k:∀ a,P a->Q a):ZD7 o Q:=by
 obtain ⟨a,e,hp⟩:=h;exact ⟨a,e,k a hp⟩
theorem ZD7.of {α:Type} {o:Option α} {a:α} {Q:α->Prop} (e:o=some a) (h:Q a):ZD7 o Q:=⟨a,e,h⟩
def Rnd {τ ρ:Type} (I:τ->Prop) (μ:τ->Nat) (m:Nat) (Q:ρ->Prop):τ ⊕ ρ->Prop
 | .inl v=>I v/\μ v<m
 | .inr r=>Q r
theorem ZD7.loop {τ ρ:Type} {step:τ->Option (τ ⊕ ρ)} (I:τ->Prop) (μ:τ->Nat) {Q:ρ->Prop} {v:τ} (h0:I v) (hs:∀ v,I v->ZD7 (step v) (Rnd I μ (μ v) Q)):ZD7 (Zn step v) Q:=by
 refine VR I μ Q h0 (λv hI=>?_);obtain ⟨r,e,h⟩:=hs v hI;cases r with
 | inl v'=>exact .inl ⟨v',e,h⟩
 | inr r=>exact .inr ⟨r,e,h⟩
def Bel (n k:Int):Prop:=0<=k/\(k<n\/k=0)
theorem ZEN {α:Type} {P:α->Prop} {l:List α} {x:α} (h:∀ y∈l,P y) (hx:P x):∀ y∈l++[x],P y:=by
 intro y hy;rcases List.mem_append.1 hy with hy | hy
 ·exact h y hy
 ·rw[List.mem_singleton] at hy
  rw[hy];exact hx
theorem ZFe {α:Type} {P:α->Prop} {l:List α} {x:α} {i:Nat} (h:∀ y∈l,P y) (hx:P x):∀ y∈l.set i x,P y:=by
 intro y hy;rcases List.mem_or_eq_of_mem_set hy with hy | hy
 ·exact h y hy
 ·rw[hy];exact hx
theorem smI {l:List Int} (h:l.length<=1048576):sm (.sl (.int .i64)) l:=⟨by omega,λ_ _=>trivial⟩
theorem smS {s:List UInt8} (h:s.length<=1048576):sm .str s:=by show (s.length:Int)<=1048576;omega
theorem smL {t:Ty} {l:List t.den} (h:l.length<=1048576) (h2:∀ x∈l,sm t x):sm (.sl t) l:=⟨by omega,h2⟩
structure Src (s:ZdR):Prop where
 code:∀ x∈ZdR.code s,0<=x/\x<=255
 len:(ZdR.code s).length<=5000
 at0:0<=ZdR.at s
 at1:ZdR.at s<=5000
 sd0:0<=ZdR.seed s
 sd1:ZdR.seed s<2147483647
theorem ZDY {s:ZdR} (hs:Src s) (n:Int):ZD7 (ZDX s n) (λr=>Bel n r.1/\Src r.2):=by
 obtain ⟨hc,hl,a0,a1,s0,s1⟩:=hs;unfold ZDX;split
 ·exact .ret ⟨⟨Int.le_refl _,.inr rfl⟩,⟨hc,hl,a0,a1,s0,s1⟩⟩
 rename_i hn;split
 ·rename_i hat
  refine .at a0 hat λx hx _=>?_;obtain ⟨b0,b1⟩:=hc x hx;have e1:Wq (ZdR.at s+1)=ZdR.at s+1:=XG (by omega) (by omega);have e2:Wq x=x:=XG (by omega) (by omega);have e3:Wq (ZdR.seed s*48271)=ZdR.seed s*48271:=XG (by omega) (by omega);have e4:Wq (ZdR.seed s*48271+x)=ZdR.seed s*48271+x:=XG (by omega) (by omega);have e5:Wq (ZdR.seed s*48271+x+1)=ZdR.seed s*48271+x+1:=XG (by omega) (by omega);simp only[e2,e3,e4,e5,e1];split
  ·refine .guard (by omega) (.ret ⟨⟨Int.tmod_nonneg _ b0,.inl (Int.tmod_lt_of_pos _ (by omega))⟩,⟨hc,hl,?_,?_,s0,s1⟩⟩)
   ·show 0<=ZdR.at s+1;omega
   ·show ZdR.at s+1<=5000;omega
  ·have m0:=Int.tmod_nonneg (a:=ZdR.seed s*48271+x+1) 2147483647 (by omega)
   have m1:=Int.tmod_lt_of_pos (ZdR.seed s*48271+x+1) (show (0:Int)<2147483647 by omega);refine .guard (by omega) (.ret ⟨⟨Int.tmod_nonneg _ m0,.inl (Int.tmod_lt_of_pos _ (by omega))⟩,⟨hc,hl,?_,?_,m0,m1⟩⟩)
   ·show 0<=ZdR.at s+1;omega
   ·show ZdR.at s+1<=5000;omega
 ·have e3:Wq (ZdR.seed s*48271)=ZdR.seed s*48271:=XG (by omega) (by omega)
  have e4:Wq (ZdR.seed s*48271+11)=ZdR.seed s*48271+11:=XG (by omega) (by omega);simp only[e3,e4];have m0:=Int.tmod_nonneg (a:=ZdR.seed s*48271+11) 2147483647 (by omega);have m1:=Int.tmod_lt_of_pos (ZdR.seed s*48271+11) (show (0:Int)<2147483647 by omega);generalize (ZdR.seed s*48271+11).tmod 2147483647=q at m0 m1;have d0:q.tdiv 7=q / 7:=Int.tdiv_eq_ediv_of_nonneg m0;rw[d0,XG (n:=q / 7) (by omega) (by omega)];exact .guard (by omega) (.ret ⟨⟨Int.tmod_nonneg _ (by omega),.inl (Int.tmod_lt_of_pos _ (by omega))⟩,⟨hc,hl,a0,a1,m0,m1⟩⟩)
theorem ZGd {code:List Int} (hc:∀ x∈code,0<=x/\x<=255) (hl:code.length<=5000):ZD7 (ZEK code) Src:=by
 unfold ZEK;refine ZD7.loop (λv=>0<=v.1/\v.1<=64/\0<=v.2.1/\v.2.1<2147483647) (λv=>(64-v.1).toNat) ⟨Int.le_refl _,by show (0:Int)<=64;omega,by show (0:Int)<=12345;omega,by show (12345:Int)<2147483647;omega⟩ ?_;rintro ⟨i,c,⟨⟩⟩ ⟨i0,i1,c0,c1⟩;simp only at i0 i1 c0 c1;have fin:ZD7 (some (.inr (code,(0:Int),c,()):(Int×Int×Unit) ⊕ ZdR)) (Rnd (λv:Int×Int×Unit=>0<=v.1/\v.1<=64/\0<=v.2.1/\v.2.1<2147483647) (λv=>(64-v.1).toNat) ((λv:Int×Int×Unit=>(64-v.1).toNat) (i,c,())) Src) :=
  .ret (show Src (code,(0:Int),c,()) from ⟨hc,hl,Int.le_refl _,by show (0:Int)<=5000;omega,c0,c1⟩)
 show ZD7 (ZEx code i c) _;unfold ZEx;split
 ·rename_i hi
  split
  ·rename_i h64
   refine .at i0 hi λx hx _=>?_;obtain ⟨b0,b1⟩:=hc x hx;have e1:Wq (i+1)=i+1:=XG (by omega) (by omega);have e2:Wq x=x:=XG (by omega) (by omega);have e3:Wq (c*31)=c*31:=XG (by omega) (by omega);have e4:Wq (c*31+x)=c*31+x:=XG (by omega) (by omega);simp only[e1,e2,e3,e4];refine .ret ⟨⟨?_,?_,Int.tmod_nonneg _ (by omega),Int.tmod_lt_of_pos _ (by omega)⟩,?_⟩
   ·show 0<=i+1;omega
   ·show i+1<=64;omega
   ·show (64-(i+1)).toNat<(64-i).toNat;omega
  ·exact fin
 ·exact fin
theorem ZGk {code:List Int} (hc:∀ x∈code,0<=x/\x<=255) (hl:code.length<=4096):ZD7 (ZEK code) Src:=ZGd hc (by omega)
theorem ZF1 {n:Int} (h0:0<=n) (h1:n<100):ZD7 (ZEp n) (λr=>r.length<=2):=by
 have one:∀ (k:Nat) (m:Int),0<=m->m<10->ZD3 (k+1) m=some (bytesOf [IntKind.wrap IntKind.u8 (Wq (48+m))]):=λk m a b=>by
  show ZD1 (ZD3 k) m=_;unfold ZD1;rw[if_neg (by omega),if_pos b]
 have hb:∀ x:Int,(bytesOf [x]).length=1:=λx=>rfl;unfold ZEp;by_cases h:n<10
 ·refine .of (ZqF ⟨1,one 0 n h0 h⟩ (λk r hr=>?_)) (by rw[hb];omega)
  cases k with
  | zero=>cases hr
  | succ k=>rw[one k n h0 h] at hr;injection hr with hr;exact hr.symm
 ·have hd:n.tdiv 10=n / 10:=Int.tdiv_eq_ediv_of_nonneg h0
  have two:∀ k:Nat,ZD3 (k+2) n=some (bytesOf [IntKind.wrap IntKind.u8 (Wq (48+n / 10))]++bytesOf [IntKind.wrap IntKind.u8 (Wq (48+n.tmod 10))]):=λk=>by
   show ZD1 (ZD3 (k+1)) n=_;unfold ZD1;rw[if_neg (by omega),if_neg h,hd,XG (n:=n / 10) (by omega) (by omega),one k (n / 10) (by omega) (by omega),Bq,Zh (by rw[hb,hb];omega)]
  refine .of (ZqF ⟨2,two 0⟩ (λk r hr=>?_)) (by rw[List.length_append,hb,hb];omega)
  match k,hr with
  | 0,hr=>cases hr
  | 1,hr =>
   exfalso;revert hr;show ¬ZD1 (ZD3 0) n=some r;unfold ZD1;rw[if_neg (by omega),if_neg h];intro hr;cases hr
  | k+2,hr=>rw[two k] at hr;injection hr with hr;exact hr.symm
theorem ZFo {s:ZdR} (hs:Src s) (st:Int):ZD7 (ZEf s st) (λr=>(1<=r.1.length/\r.1.length<=3)/\Src r.2):=by
 unfold ZEf;refine (ZDY hs st).bind λr0 ⟨_,h0⟩=>?_;refine (ZDY h0 3).bind λr1 ⟨⟨a,b⟩,h1⟩=>?_;have e:Wq (1+r1.1)=1+r1.1:=XG (by omega) (by omega);rw[e];refine ZD7.loop (λv=>0<=v.2.2.1/\(v.1.length:Int)+v.2.2.1=1+r1.1/\Src (v.2.2.2.1,v.2.2.2.2.1,v.2.2.2.2.2.1,())) (λv=>v.2.2.1.toNat) ⟨by dsimp only;omega,by grind,h1⟩ ?_;rintro ⟨out,t,n,c0,c1,c2,⟨⟩⟩ ⟨i1,i2,i3⟩;dsimp only at i1 i2 i3;show ZD7 (ZEg st out t n c0 c1 c2) _;unfold ZEg;have hw:Wq (n-1)=n-1:=XG (by omega) (by omega);rw[hw];split
 ·refine .guard (by grind) ?_
  refine (ZDY i3 st).bind λr ⟨_,h2⟩=>?_;refine .ret ⟨⟨by dsimp only;omega,by grind,h2⟩,by dsimp only;omega⟩
 ·exact .ret ⟨⟨by dsimp only;omega,by dsimp only;omega⟩,i3⟩
theorem ZGA {a b:Nat} (ha:1<=a/\a<=3) (hb:1<=b/\b<=3):(b:Int)<=(a:Int)*(b:Int)/\(a:Int)*(b:Int)<=9:=by
 have:a=1\/a=2\/a=3:=by omega
 grind
theorem ZFd {s:ZdR} (hs:Src s) (base:Int):ZD7 (ZEL s base) (λr=>sm YV r.1/\Src r.2):=by
 unfold ZEL;refine (ZFo hs 60).bind λr0 ⟨ha,h0⟩=>?_;refine (ZFo h0 40).bind λr1 ⟨hb,h1⟩=>?_;obtain ⟨p1,p2⟩:=ZGA ha hb;refine ZD7.loop (λv=>0<=v.2.1/\v.2.1<=9/\(v.1.length:Int)=v.2.1/\Src (v.2.2.1,v.2.2.2.1,v.2.2.2.2.1,())) (λv=>(9-v.2.1).toNat) ⟨by dsimp only;omega,by dsimp only;omega,by grind,h1⟩ ?_;rintro ⟨out,i,c0,c1,c2,⟨⟩⟩ ⟨i0,i1,i2,i3⟩;dsimp only at i0 i1 i2 i3;show ZD7 (ZEy base r0 r1 out i c0 c1 c2) _;unfold ZEy;have e0:Wq ((r0.1.length:Int)*(r1.1.length:Int))=(r0.1.length:Int)*(r1.1.length:Int):=XG (by omega) (by omega);have e1:Wq (i+1)=i+1:=XG (by omega) (by omega);have e2:Wq (i-1)=i-1:=XG (by omega) (by omega);have e3:Wq (i-(r1.1.length:Int))=i-(r1.1.length:Int):=XG (by omega) (by omega);rw[e0,e1,e2,e3];split
 ·rename_i hi
  have nx:∀ (x:Int) (t:ZdR),Src t->ZD7 (Zu ((List.length out+List.length [x])*(8:Nat)<=(140737488355328:Nat)) (some (.inl (out++[x],i+1,t.fst,t.snd.fst,t.snd.snd.fst,()):(List Int×Int×List Int×Int×Int×Unit) ⊕ (ZE×ZdR))))
    (Rnd (λv:List Int×Int×List Int×Int×Int×Unit=>0<=v.2.1/\v.2.1<=9/\(v.1.length:Int)=v.2.1/\Src (v.2.2.1,v.2.2.2.1,v.2.2.2.2.1,())) (λv=>(9-v.2.1).toNat) (9-i).toNat (λr=>sm YV r.1/\Src r.2)):=λx t ht =>
   .guard (by grind) (.ret ⟨⟨by dsimp only;omega,by dsimp only;omega,by grind,ht⟩,by dsimp only;omega⟩)
  refine (ZDY i3 10).bind λr ⟨_,g0⟩=>?_;refine .guard (by omega) ?_;split
  ·rename_i hm
   have hne:i≠0:=by
    intro q
    simp_all
   refine .at (by omega) (by omega) λx0 _ _=>?_;refine (ZDY g0 20).bind λr2 ⟨_,g1⟩=>?_;split
   ·refine .at (by omega) (by omega) λx1 _ _=>?_
    refine (ZDY g1 20).bind λr3 ⟨_,g2⟩=>?_;exact nx _ _ g2
   ·exact nx _ _ g1
  ·split
   ·refine .at (by omega) (by omega) λx1 _ _=>?_
    refine (ZDY g0 20).bind λr3 ⟨_,g2⟩=>?_;exact nx _ _ g2
   ·exact nx _ _ g0
 ·exact .ret ⟨⟨smI (by dsimp only;omega),smI (by dsimp only;omega),smI (by dsimp only;omega),trivial⟩,i3⟩
theorem ZEX {s:ZdR} (hs:Src s) (base:Int):ZD7 (ZD6 s base) (λr=>sm (.sl YV) r.1/\Src r.2):=by
 unfold ZD6;refine (ZFd hs base).bind λr0 ⟨a,h0⟩=>?_;refine (ZFd h0 base).bind λr1 ⟨b,h1⟩=>?_;refine .ret ⟨smL (by grind) (λx hx=>?_),h1⟩;grind
theorem ZEY {s:ZdR} (hs:Src s) (k f t se:Int):ZD7 (ZD5 s k f t se) (λr=>sm ZdW r.1/\Src r.2):=by
 unfold ZD5;split
 ·refine (ZDY hs 10).bind λr0 ⟨_,h0⟩=>?_
  refine (ZEX h0 _).bind λr1 ⟨a,h1⟩=>?_;exact .ret ⟨⟨trivial,trivial,trivial,trivial,a,smL (by simp) (by simp),trivial⟩,h1⟩
 ·refine (ZDY hs 20).bind λr0 ⟨_,h0⟩=>?_
  refine (ZEX h0 _).bind λr1 ⟨a,h1⟩=>?_;refine (ZEX h1 _).bind λr2 ⟨b,h2⟩=>?_;exact .ret ⟨⟨trivial,trivial,trivial,trivial,a,b,trivial⟩,h2⟩
theorem ZER {c:Zm} {pin b:Int} (hu:(0:Int)<=IntKind.wrap IntKind.u64 pin) (hbit:Wq ((1:Int)*(2:Int) ^ Min.min (Int.toNat (IntKind.wrap IntKind.u64 pin)) (IntKind.bits IntKind.i64))=b) (hL:(Zm.Truth c).length<=8) (b0:0<=b) (b1:b<=8)
  (hb:∀ i:Int,0<=i->i<((Zm.Truth c).length:Int)->Go.bits Go.BinOp.and IntKind.i64 i b=0->i+b<((Zm.Truth c).length:Int)):ZD7 (ZEB c pin) (λ_=>True):=by
 unfold ZEB;refine .guard hu ?_;refine ZD7.loop (λv=>0<=v.2.2.1/\v.2.2.1<=8) (λv=>(8-v.2.2.1).toNat) ⟨by dsimp only;omega,by dsimp only;omega⟩ ?_;rintro ⟨ra,lo,i,⟨⟩⟩ ⟨i0,i1⟩;dsimp only at i0 i1;show ZD7 (ZEs c pin ra lo i) _;unfold ZEs;have e1:Wq (i+1)=i+1:=XG (by omega) (by omega);have e2:Wq (i+b)=i+b:=XG (by omega) (by omega);simp only[hbit,e1,e2];split
 ·rename_i hi
  have nx:∀ r l:Bool,ZD7 (some (.inl (r,l,i+1,()):(Bool×Bool×Int×Unit) ⊕ Int)) (Rnd (λv:Bool×Bool×Int×Unit=>0<=v.2.2.1/\v.2.2.1<=8) (λv=>(8-v.2.2.1).toNat) (8-i).toNat (λ_=>True)):=λr l =>
   .ret ⟨⟨by dsimp only;omega,by dsimp only;omega⟩,by dsimp only;omega⟩
  split
  ·rename_i hz
   have hlt:=hb i i0 hi hz;repeat' first
    | exact nx _ _
    | split
    | refine ZD7.at (by omega) (by omega) λ_ _ _=>?_
  ·exact nx _ _
 ·repeat' first
   | exact ZD7.ret (show Rnd _ _ _ (λ_=>True) (.inr _) from trivial)
   | split
theorem eight {i:Int} (h0:0<=i) (h1:i<8):i=0\/i=1\/i=2\/i=3\/i=4\/i=5\/i=6\/i=7:=by omega
theorem ZGf {c:Zm} {pin:Int} (h:((Zm.Truth c).length=2/\pin=0)\/((Zm.Truth c).length=4/\(pin=0\/pin=1))\/((Zm.Truth c).length=8/\(pin=0\/pin=1\/pin=2))):ZD7 (ZEB c pin) (λ_=>True):=by
 have k0:∀ L:Int,(L=2\/L=4\/L=8)->∀ i:Int,0<=i->i<L->Go.bits Go.BinOp.and IntKind.i64 i 1=0->i+1<L:=by
  intro L hL i h0 h1 hz;rcases eight h0 (by omega) with rfl | rfl | rfl | rfl | rfl | rfl | rfl | rfl<;>first | omega | exact absurd hz (by decide)
 have k1:∀ L:Int,(L=4\/L=8)->∀ i:Int,0<=i->i<L->Go.bits Go.BinOp.and IntKind.i64 i 2=0->i+2<L:=by
  intro L hL i h0 h1 hz;rcases eight h0 (by omega) with rfl | rfl | rfl | rfl | rfl | rfl | rfl | rfl<;>first | omega | exact absurd hz (by decide)
 have k2:∀ L:Int,L=8->∀ i:Int,0<=i->i<L->Go.bits Go.BinOp.and IntKind.i64 i 4=0->i+4<L:=by
  intro L hL i h0 h1 hz;rcases eight h0 (by omega) with rfl | rfl | rfl | rfl | rfl | rfl | rfl | rfl<;>first | omega | exact absurd hz (by decide)
 rcases h with ⟨hl,rfl⟩ | ⟨hl,rfl | rfl⟩ | ⟨hl,rfl | rfl | rfl⟩
 ·exact ZER (b:=1) (by decide) (by decide) (by omega) (by omega) (by omega) (k0 _ (by omega))
 ·exact ZER (b:=1) (by decide) (by decide) (by omega) (by omega) (by omega) (k0 _ (by omega))
 ·exact ZER (b:=2) (by decide) (by decide) (by omega) (by omega) (by omega) (k1 _ (by omega))
 ·exact ZER (b:=1) (by decide) (by decide) (by omega) (by omega) (by omega) (k0 _ (by omega))
 ·exact ZER (b:=2) (by decide) (by decide) (by omega) (by omega) (by omega) (k1 _ (by omega))
 ·exact ZER (b:=4) (by decide) (by decide) (by omega) (by omega) (by omega) (k2 _ (by omega))
theorem ZET {s:ZdR} (hs:Src s) {nm:List UInt8} (hn:nm.length<=5) {tr:List Int} (ht:tr.length=2\/tr.length=4\/tr.length=8):ZD7 (ZEd s nm tr) (λr=>sm Qk r.1/\Src r.2):=by
 unfold ZEd;refine (ZDY hs 50).bind λr0 ⟨_,h0⟩=>?_;refine (ZDY h0 80).bind λr1 ⟨_,h1⟩=>?_;refine ZD7.loop (λv=>((v.1.length=0/\v.2.1=1)\/(v.1.length=1/\v.2.1=2)\/(v.1.length=2/\v.2.1=4)\/(v.1.length=3/\v.2.1=8))/\v.2.1<=(tr.length:Int)/\(∀ x∈v.1,sm Zdh x)/\Src (v.2.2.1,v.2.2.2.1,v.2.2.2.2.1,())) (λv=>(8-v.2.1).toNat)
  ⟨.inl ⟨rfl,rfl⟩,by dsimp only;omega,λx hx=>(by cases hx),h1⟩ ?_
 rintro ⟨pins,n,c0,c1,c2,⟨⟩⟩ ⟨i1,i2,i3,i4⟩;dsimp only at i1 i2 i3 i4;show ZD7 (ZEA nm tr r0 r1 pins n c0 c1 c2) _;unfold ZEA;split
 ·rename_i hlt
  refine .at (by omega) (by grind) λx hx _=>?_;have hx1:x.length<=1:=by
   grind
  refine (ZDY i4 9).bind λr ⟨_,h2⟩=>?_;have e1:Wq (2*n)=2*n:=XG (by omega) (by omega);rw[e1];refine .guard (by grind) (.ret ⟨⟨?_,by dsimp only;omega,ZEN i3 ⟨smS (by grind),trivial,trivial,trivial,trivial⟩,h2⟩,by dsimp only;omega⟩);grind
 ·refine .guard (by grind) ?_
  refine ZD7.loop (λv=>0<=v.2.1/\v.2.1<=3/\(v.1.length:Int)<=v.2.1/\(∀ x∈v.1,sm ZdW x)/\Src (v.2.2.1,v.2.2.2.1,v.2.2.2.2.1,())) (λv=>(3-v.2.1).toNat) ⟨by dsimp only;omega,by dsimp only;omega,by grind,λx hx=>(by cases hx),i4⟩ ?_;rintro ⟨arcs,p,d0,d1,d2,⟨⟩⟩ ⟨j0,j1,j2,j3,j4⟩;dsimp only at j0 j1 j2 j3 j4;show ZD7 (ZEz nm tr r0 r1 pins arcs p d0 d1 d2) _;unfold ZEz;have e1:Wq (p+1)=p+1:=XG (by omega) (by omega);rw[e1];split
  ·rename_i hp
   refine (ZGf (by
    grind)).bind λse _=>?_
   split
   ·exact .ret ⟨⟨by dsimp only;omega,by dsimp only;omega,by dsimp only;omega,j3,j4⟩,by dsimp only;omega⟩
   ·refine (ZEY j4 1 p _ se).bind λr ⟨ha,h2⟩=>?_
    refine .guard (by grind) (.ret ⟨⟨by dsimp only;omega,by dsimp only;omega,?_,ZEN j3 ha,h2⟩,by dsimp only;omega⟩);grind
  ·refine .ret ⟨⟨smS (by grind),trivial,smL ?_ (ZEN i3 ⟨smS (by grind),trivial,trivial,trivial,trivial⟩),smL (by grind) j3,smI (by grind),trivial,trivial,trivial⟩,j4⟩
   grind
theorem ZE5 {s:ZdR} (hs:Src s) {nm:List UInt8} (hn:nm.length<=5) (k e:Int):ZD7 (ZD8 s nm k e) (λr=>sm Qk r.1/\Src r.2):=by
 have hp:∀ a b:Int,sm (.sl Zdh) [([(100:UInt8)],(1:Int),a,Bool.false,()),([(99:UInt8),(107:UInt8)],(1:Int),b,Bool.true,()),([(113:UInt8)],(2:Int),(0:Int),Bool.false,())]:=λa b=>by
  refine smL (by grind) (λx hx=>?_);simp only[List.mem_cons,List.not_mem_nil,or_false] at hx;rcases hx with rfl | rfl | rfl<;>exact ⟨smS (by grind),trivial,trivial,trivial,trivial⟩
 unfold ZD8;refine (ZDY hs 50).bind λr0 ⟨_,h0⟩=>?_;refine (ZDY h0 80).bind λr1 ⟨_,h1⟩=>?_;refine (ZDY h1 9).bind λr2 ⟨_,h2⟩=>?_;refine (ZDY h2 9).bind λr3 ⟨_,h3⟩=>?_;refine (ZEY h3 e 1 2 0).bind λa0 ⟨g0,h4⟩=>?_;refine (ZEY h4 4 1 0 0).bind λa1 ⟨g1,h5⟩=>?_;refine (ZEY h5 5 1 0 0).bind λa2 ⟨g2,h6⟩=>?_;have h3a:∀ x∈[a0.1,a1.1,a2.1],sm ZdW x:=λx hx=>by
  grind
 split
 ·refine (ZEY h6 1 0 2 1).bind λa3 ⟨g3,h7⟩=>?_
  refine .guard (by grind) (.ret ⟨⟨smS (by grind),trivial,hp _ _,smL (by grind) (ZEN h3a g3),smI (by simp),trivial,trivial,trivial⟩,h7⟩)
 ·exact .ret ⟨⟨smS (by grind),trivial,hp _ _,smL (by grind) h3a,smI (by simp),trivial,trivial,trivial⟩,h6⟩
theorem ZGs {s:ZdR} (hs:Src s):ZD7 (ZEO s) (λr=>(sm YL r.1/\(Zt.Cells r.1).length=8)/\Src r.2):=by
 unfold ZEO;refine (ZET hs (by grind) (by simp)).bind λr0 ⟨g0,h0⟩=>?_;refine (ZET h0 (by grind) (by simp)).bind λr1 ⟨g1,h1⟩=>?_;refine (ZET h1 (by grind) (by simp)).bind λr2 ⟨g2,h2⟩=>?_;refine (ZET h2 (by grind) (by simp)).bind λr3 ⟨g3,h3⟩=>?_;refine (ZET h3 (by grind) (by simp)).bind λr4 ⟨g4,h4⟩=>?_;refine (ZE5 h4 (by grind) 2 2).bind λr5 ⟨g5,h5⟩=>?_;refine (ZE5 h5 (by grind) 2 3).bind λr6 ⟨g6,h6⟩=>?_;refine (ZE5 h6 (by grind) 3 2).bind λr7 ⟨g7,h7⟩=>?_;refine .ret ⟨⟨⟨smL (by simp_all) (λx hx=>?_),trivial⟩,rfl⟩,h7⟩;simp only[List.mem_cons,List.not_mem_nil,or_false] at hx;grind
end Go.Proofs.YtioiomifapgimaaGreatDoor
