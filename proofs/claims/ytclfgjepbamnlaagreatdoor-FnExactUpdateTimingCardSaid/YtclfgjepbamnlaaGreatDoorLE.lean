/-
  Plain laws: nodes in order, in the reference.
-/
import Derived.Test.YtclfgjepbamnlaaGreatDoorLD
import Derived.Test.YtclfgjepbamnlaaGreatDoorLC
import Derived.Test.YtclfgjepbamnlaaGreatDoorLA
import Derived.Test.YtclfgjepbamnlaaGreatDoorLB
namespace Go.Proofs.YtclfgjepbamnlaaGreatDoor
set_option linter.unusedVariables false
set_option linter.unusedSimpArgs false
open Go Go.Sx
def cw (live:List Bool) (out:List Int) (v:Int) (k:Nat) (x:Zq):Nat:=if (live[k]?).getD false=true then (if Zq.To x=v then (if Zq.From x∈out then 0 else 1) else 0) else 0
def Zix (live:List Bool) (L:List Zq) (out:List Int) (v:Int):Nat:=foldI (fun k x s=>s+cw live out v k x) 0 L 0
def nxt (live:List Bool) (L:List Zq) (n:Nat) (out:List Int):Option Nat:=(List.range n).find? fun v=>decide ((v:Int) ∉ out)&&decide (Zix live L out (v:Int)=0)
def Zvt (live:List Bool) (L:List Zq) (n:Nat):Nat→List Int→List Int×Bool
 | 0,out=>(out,true)
 | m+1,out=>match nxt live L n out with
  | none=>([],false)
  | some v=>Zvt live L n m (out++[(v:Int)])
def ZkV (n:Nat) (p:Nat→Bool):List Bool:=(List.range n).map p
theorem Zds {n:Nat} {p:Nat→Bool} {v:Nat} (h:v<n):(ZkV n p)[v]?=some (p v):=by
 unfold ZkV
 rw [List.getElem?_map,List.getElem?_range h]
 rfl
theorem Zl2 (n:Nat) (p:Nat→Bool):(ZkV n p).length=n:=by unfold ZkV;simp
theorem Zry {n:Nat} {p q:Nat→Bool} {i:Nat} {b:Bool} (hi:i<n) (h1:q i=b) (h2:∀ j,j≠i→q j=p j):List.set (ZkV n p) i b=ZkV n q:=by
 apply List.ext_getElem?
 intro j
 rw [List.getElem?_set]
 by_cases c:i=j
 ·subst c
  rw [if_pos rfl,if_pos (by rw [Zl2];exact hi),Zds hi,h1]
 ·rw [if_neg c]
  by_cases hj:j<n
  ·rw [Zds hj,Zds hj,h2 j (fun e=>c e.symm)]
  ·rw [List.getElem?_eq_none (by rw [Zl2];omega),List.getElem?_eq_none (by rw [Zl2];omega)]
theorem Zod (n:Nat):List.replicate n false=ZkV n fun _=>false:=by
 apply List.ext_getElem?
 intro j
 by_cases hj:j<n
 ·rw [Zds hj,List.getElem?_replicate,if_pos hj]
 ·rw [List.getElem?_eq_none (by rw [List.length_replicate];omega),List.getElem?_eq_none (by rw [Zl2];omega)]
structure ZsC (live:List Bool) (L:List Zq) (n:Nat):Prop where
 few:L.length≤6000
 ll:live.length=L.length
 n0:n≤1000
 bd:∀ x∈L,(0≤Zq.From x∧Zq.From x<(n:Int))∧0≤Zq.To x∧Zq.To x<(n:Int)
theorem Za5 {live:List Bool} {L:List Zq} {out:List Int} {v:Int} {k:Nat} {x:Zq} (hx:L[k]?=some x):Zix live (L.take (k+1)) out v=Zix live (L.take k) out v+cw live out v k x:=by
 unfold Zix
 rw [Zes hx]
theorem Zsw {live:List Bool} {L:List Zq} {n:Nat} (h:ZsC live L n) {out:List Int} {Q:(List Int×List Bool×Unit) ⊕ (List Int×Bool)}
  (hQ:Zm (fun v=>YJ (n:Int) out (ZkV n fun v=>decide ((v:Int)∈out)) (ZkV n fun v=>decide (Zix live L out (v:Int)≠0)) v.1) ((0:Int),())=some (.inr Q)) :
  Zm (fun v=>Q6 (n:Int) L live out (ZkV n fun v=>decide ((v:Int)∈out)) v.1 v.2.1) ((0:Int),List.replicate (Int.toNat (n:Int)) false,())=some Q:=by
 have hf:=h.few
 have hll:=h.ll
 refine ZY L.length (fun k v=>v=((k:Int),ZkV n (fun v=>decide (Zix live (L.take k) out (v:Int)≠0)),())) _ ?_ ?_ ?_
 ·rw [Int.toNat_natCast,Zod]
  rfl
 ·rintro k _ hkl rfl
  have hx:L[k]?=some (L[k]'(by omega)):=List.getElem?_eq_getElem _
  have hlv:live[k]?=some (live[k]'(by omega)):=List.getElem?_eq_getElem _
  generalize L[k]'(by omega)=x at hx
  generalize live[k]'(by omega)=lv at hlv
  obtain ⟨⟨f0,f1⟩,t0,t1⟩:=h.bd x (List.mem_of_getElem? hx)
  have hfrom:atI (ZkV n fun v=>decide ((v:Int)∈out)) (Zq.From x)=some (decide (Zq.From x∈out)):=by
   refine Qj f0 ?_
   rw [Zds (by omega),show ((Zq.From x).toNat:Int)=Zq.From x by omega]
  have hto:∀ p:Nat→Bool,atI (ZkV n p) (Zq.To x)=some (p (Zq.To x).toNat):=fun p=>Qj t0 (Zds (by omega))
  refine .inl ⟨(((k+1:Nat):Int),ZkV n (fun v=>decide (Zix live (L.take (k+1)) out (v:Int)≠0)),()),?_,rfl⟩
  simp only [Q6,show (k:Int)<(L.length:Int) from by omega,if_true,Zn,hx,hlv,Bq,hfrom,hto,Xo (show k≤1048576 by omega)]
  have hsame:(∀ v:Nat,cw live out (v:Int) k x=0)→ZkV n (fun v=>decide (Zix live (L.take (k+1)) out (v:Int)≠0))=ZkV n (fun v=>decide (Zix live (L.take k) out (v:Int)≠0)):=fun hz=>by
   unfold ZkV
   refine List.map_congr_left fun v _=>?_
   rw [Za5 hx,hz,Nat.add_zero]
  by_cases q1:lv=true
  ·rw [if_pos q1]
   by_cases q2:Zq.From x∈out
   ·rw [if_pos (decide_eq_true q2),hsame (fun v=>by unfold cw;rw [hlv,Option.getD_some,if_pos q1,if_pos q2];split<;>rfl)]
   ·rw [if_neg (by rw [decide_eq_true_eq];exact q2)]
    rw [Zry (q:=fun v=>decide (Zix live (L.take (k+1)) out (v:Int)≠0)) (by omega) ?_ ?_]
    ·rw [decide_eq_true_eq,Za5 hx]
     unfold cw
     rw [hlv,Option.getD_some,if_pos q1,if_pos (by omega),if_neg q2]
     omega
    ·intro j hj
     rw [Za5 hx]
     unfold cw
     rw [hlv,Option.getD_some,if_pos q1,if_neg (by omega),Nat.add_zero]
  ·rw [if_neg q1,hsame (fun v=>by unfold cw;rw [hlv,Option.getD_some,if_neg q1])]
 ·rintro _ rfl
  show Q6 (n:Int) L live out (ZkV n fun v=>decide ((v:Int)∈out)) (L.length:Int) (ZkV n fun v=>decide (Zix live (L.take L.length) out (v:Int)≠0))=_
  unfold Q6
  rw [if_neg (Int.lt_irrefl _),List.take_length]
  exact hQ
theorem Zt0 {live:List Bool} {L:List Zq} {n:Nat} (h:ZsC live L n) {out:List Int} (ho:out.length≤1000) :
  Zm (fun v=>YJ (n:Int) out (ZkV n fun v=>decide ((v:Int)∈out)) (ZkV n fun v=>decide (Zix live L out (v:Int)≠0)) v.1) ((0:Int),()) =
   some (.inr (match nxt live L n out with
    | none=>.inr ([],false)
    | some v=>.inl (out++[(v:Int)],ZkV n (fun u=>decide ((u:Int)∈out++[(v:Int)])),()))):=by
 have hn:=h.n0
 have step:∀ k:Nat,k<n→(decide ((k:Int) ∉ out)&&decide (Zix live L out (k:Int)=0))=false→YJ (n:Int) out (ZkV n fun v=>decide ((v:Int)∈out)) (ZkV n fun v=>decide (Zix live L out (v:Int)≠0)) (k:Int)=some (.inl (((k+1:Nat):Int),())):=fun k hk hp=>by
  unfold YJ
  rw [if_pos (by omega),Zn,Zds hk,Bq,Xo (by omega)]
  by_cases q:(k:Int)∈out
  ·rw [if_pos (decide_eq_true q)]
  ·rw [if_neg (by rw [decide_eq_true_eq];exact q),Zn,Zds hk,Bq]
   have hw:Zix live L out (k:Int)≠0:=fun z=>by
    rw [decide_eq_true q,decide_eq_true z] at hp
    exact Bool.noConfusion hp
   rw [if_pos (decide_eq_true hw)]
 cases e:nxt live L n out with
 | none =>
  unfold nxt at e
  rw [List.find?_range_eq_none] at e
  refine ZY n (fun k v=>v=((k:Int),())) _ rfl ?_ ?_
  ·rintro k _ hk rfl
   exact .inl ⟨_,step k hk (by have:=e k hk;rw [Bool.not_eq_true'] at this;exact this),rfl⟩
  ·rintro _ rfl
   show YJ _ _ _ _ (n:Int)=_
   unfold YJ
   rw [if_neg (Int.lt_irrefl _),if_pos rfl]
 | some v =>
  unfold nxt at e
  rw [List.find?_range_eq_some] at e
  obtain ⟨hp,hv,hlow⟩:=e
  have hv:=List.mem_range.1 hv
  rw [Bool.and_eq_true,decide_eq_true_eq,decide_eq_true_eq] at hp
  refine ZY v (fun k u=>u=((k:Int),())) _ rfl ?_ ?_
  ·rintro k _ hk rfl
   exact .inl ⟨_,step k (by omega) (by have:=hlow k hk;rw [Bool.not_eq_true'] at this;exact this),rfl⟩
  ·rintro _ rfl
   show YJ _ _ _ _ (v:Int)=_
   unfold YJ
   rw [if_pos (by omega),Zn,Zds hv,Bq,if_neg (by rw [decide_eq_true_eq];exact hp.1),Zn,Zds hv,Bq,if_neg (by rw [decide_eq_true_eq];exact fun z=>z hp.2),if_neg (by omega),Zh (by simp only [List.length_cons,List.length_nil];omega),Int.toNat_natCast]
   rw [Zry (q:=fun u=>decide ((u:Int)∈out++[(v:Int)])) hv (decide_eq_true (List.mem_append.2 (.inr (List.mem_singleton.2 rfl)))) (fun j hj=>by
    rw [decide_eq_decide,List.mem_append,List.mem_singleton]
    constructor
    ·rintro (z | z)
     ·exact z
     ·omega
    ·exact .inl)]
theorem Znb {live:List Bool} {L:List Zq} {n:Nat} (h:ZsC live L n):∀ (m:Nat) (out:List Int),out.length+m=n→
  Zm (fun v=>Qi (n:Int) L live v.1 v.2.1) (out,ZkV n (fun u=>decide ((u:Int)∈out)),())=some (Zvt live L n m out)
 | 0,out,hm=>by
  refine Xe ?_
  show Qi (n:Int) L live out _=_
  unfold Qi
  rw [if_neg (by omega)]
  rfl
 | m+1,out,hm=>by
  have hn:=h.n0
  have hw:=Zsw h (Zt0 h (out:=out) (by omega))
  have hs:Qi (n:Int) L live out (ZkV n (fun u=>decide ((u:Int)∈out)))=some (match nxt live L n out with
    | none=>.inr ([],false)
    | some v=>.inl (out++[(v:Int)],ZkV n (fun u=>decide ((u:Int)∈out++[(v:Int)])),())):=by
   unfold Qi
   rw [if_pos (by omega)]
   exact hw
  unfold Zvt
  cases e:nxt live L n out with
  | none =>
   rw [e] at hs
   exact Xe hs
  | some v =>
   rw [e] at hs
   exact (Xh hs).trans (Znb h m (out++[(v:Int)]) (by rw [List.length_append];simp only [List.length_cons,List.length_nil];omega))
theorem Zo9 {live:List Bool} {L:List Zq} {n:Nat} (h:ZsC live L n):Zen (n:Int) L live=some (Zvt live L n n []):=by
 have hn:=h.n0
 unfold Zen
 rw [Zh (by omega),Zh (by omega),Zh (by omega),Zh (by omega),Int.toNat_natCast,Zod]
 have:=Znb h n [] (by simp)
 simpa using this
/-
  Plain laws: nodes in order, in the program (begun).
-/
def Zjd (n:Nat) (p:Nat→Int):List Int:=(List.range n).map p
theorem Zdq {n:Nat} {p:Nat→Int} {v:Nat} (h:v<n):(Zjd n p)[v]?=some (p v):=by
 unfold Zjd
 rw [List.getElem?_map,List.getElem?_range h]
 rfl
theorem Zdr (n:Nat) (p:Nat→Int):(Zjd n p).length=n:=by unfold Zjd;simp
theorem ZoY {n:Nat} {p q:Nat→Int} {i:Nat} {b:Int} (hi:i<n) (h1:q i=b) (h2:∀ j,j≠i→q j=p j):List.set (Zjd n p) i b=Zjd n q:=by
 apply List.ext_getElem?
 intro j
 rw [List.getElem?_set]
 by_cases c:i=j
 ·subst c
  rw [if_pos rfl,if_pos (by rw [Zdr];exact hi),Zdq hi,h1]
 ·rw [if_neg c]
  by_cases hj:j<n
  ·rw [Zdq hj,Zdq hj,h2 j (fun e=>c e.symm)]
  ·rw [List.getElem?_eq_none (by rw [Zdr];omega),List.getElem?_eq_none (by rw [Zdr];omega)]
def Zns (live:List Bool) (node:Int) (k:Nat) (x:Zq):List Int:=if (live[k]?).getD false=true then (if Zq.From x=node then [(k:Int)] else []) else []
def Zpv (b:Zd) (live:List Bool) (node:Int):List Int:=cat (Zns live node) 0 (Zx b)
theorem Ztm (live:List Bool) (node:Int) (k:Nat) (x:Zq):(Zns live node k x).length≤1:=by
 unfold Zns
 split
 ·split<;>simp
 ·simp
theorem Zpw {b:Zd} (h:Qm b) (live:List Bool) (node:Int) (n:Nat):(cat (Zns live node) 0 ((Zx b).take n)).length≤6000:=by
 have h1:=VQ (f:=Zns live node) (c:=1) (l:=(Zx b).take n) (m:=0) (fun k x _=>Ztm live node k x)
 have h2:=Qv h
 rw [List.length_take] at h1
 omega
theorem ZoK {b:Zd} (h:Qm b) {v:ZE} (hv:VOk b v) {live:List Bool} (hl:live.length=(Zx b).length) (node:Int):Zci (v,live,()) node=some (Zpv b live node):=by
 have h6:=Qv h
 have el:ZE.links (Yp.view ((v,live,()):Yp))=Zx b:=hv.links
 have ev:Yp.live ((v,live,()):Yp)=live:=rfl
 unfold Zci Y2
 have:=Xp (l:=Zx b) (ρ:=List Int) (Zns live node) [] (step:=fun u=>Yf (v,live,()) (node,()) u.1 u.2.1) (good:=Zpv b live node)
  (fun k x hx hk=>by
   have hlv:live[k]?=some (live[k]'(by omega)):=List.getElem?_eq_getElem _
   have hlen:=Zpw h live node k
   simp only [Yf,el,ev,show (k:Int)<((Zx b).length:Int) from by omega,if_true,Zn,hx,hlv,Bq,Zcj,List.nil_append,Xo (show k≤1048576 by omega)]
   unfold Zns at *
   rw [hlv]
   simp only [Option.getD_some]
   by_cases q1:live[k]'(by omega)=true
   ·rw [if_pos q1,if_pos q1]
    by_cases q2:Zq.From x=node
    ·rw [if_pos (decide_eq_true q2),if_pos q2,Zh (by simp only [List.length_cons,List.length_nil];omega)]
    ·rw [if_neg (by rw [decide_eq_true_eq];exact q2),if_neg q2,List.append_nil]
   ·rw [if_neg q1,if_neg q1,List.append_nil])
  (by simp only [Yf,el,Int.lt_irrefl,if_false,List.nil_append];rfl)
 rw [this]
 rfl
theorem Zsd {n:Nat} {p:Nat→Int} (hn:n≤1000):Vu (Zjd n p) 0=some (match (List.range n).find? (fun v=>decide (p v=0)) with
  | none=>-1
  | some v=>(v:Int)):=by
 unfold Vu
 cases e:(List.range n).find? (fun v=>decide (p v=0)) with
 | none =>
  rw [List.find?_range_eq_none] at e
  refine ZY n (fun k v=>v=((k:Int),())) _ rfl ?_ ?_
  ·rintro k _ hk rfl
   have hz:=e k hk
   rw [Bool.not_eq_true',decide_eq_false_iff_not] at hz
   simp only [Y3,Zdr,show (k:Int)<(n:Int) from by omega,if_true,Zn,Zdq hk,Bq,Xo (show k≤1048576 by omega)]
   rw [if_neg (fun z=>hz z.symm)]
   exact .inl ⟨_,rfl,rfl⟩
  ·rintro _ rfl
   simp only [Y3,Zdr,Int.lt_irrefl,if_false]
 | some v =>
  rw [List.find?_range_eq_some] at e
  obtain ⟨hp,hv,hlow⟩:=e
  have hv:=List.mem_range.1 hv
  rw [decide_eq_true_eq] at hp
  refine ZY v (fun k u=>u=((k:Int),())) _ rfl ?_ ?_
  ·rintro k _ hk rfl
   have hz:=hlow k hk
   rw [Bool.not_eq_true',decide_eq_false_iff_not] at hz
   simp only [Y3,Zdr,show (k:Int)<(n:Int) from by omega,if_true,Zn,Zdq (show k<n by omega),Bq,Xo (show k≤1048576 by omega)]
   rw [if_neg (fun z=>hz z.symm)]
   exact .inl ⟨_,rfl,rfl⟩
  ·rintro _ rfl
   simp only [Y3,Zdr,show (v:Int)<(n:Int) from by omega,if_true,Zn,Zdq hv,Bq]
   rw [if_pos hp.symm]
def Zq4 (live:List Bool) (k:Nat) (x:Zq):List Int:=if (live[k]?).getD false=true then [(k:Int)] else []
theorem Zq5 (live:List Bool) (k:Nat) (x:Zq):(Zq4 live k x).length≤1:=by
 unfold Zq4
 split<;>simp
theorem Zox {b:Zd} (h:Qm b) {v:ZE} (hv:VOk b v) {live:List Bool} (hl:live.length=(Zx b).length):Yw (v,live,()) ()=some (cat (Zq4 live) 0 (Zx b)):=by
 have h6:=Qv h
 have el:ZE.links (Yp.view ((v,live,()):Yp))=Zx b:=hv.links
 have ev:Yp.live ((v,live,()):Yp)=live:=rfl
 unfold Yw
 exact Xp (l:=Zx b) (ρ:=List Int) (Zq4 live) [] (step:=fun u=>Yd (v,live,()) u.1 u.2.1) (good:=cat (Zq4 live) 0 (Zx b))
  (fun k x hx hk=>by
   have hlv:live[k]?=some (live[k]'(by omega)):=List.getElem?_eq_getElem _
   have hlen:=VQ (f:=Zq4 live) (c:=1) (l:=(Zx b).take k) (m:=0) (fun k x _=>Zq5 live k x)
   rw [List.length_take] at hlen
   simp only [Yd,el,ev,show (k:Int)<((Zx b).length:Int) from by omega,if_true,Zn,hx,hlv,Bq,Zbu,List.nil_append,Xo (show k≤1048576 by omega)]
   unfold Zq4 at *
   rw [hlv]
   simp only [Option.getD_some]
   by_cases q1:live[k]'(by omega)=true
   ·rw [if_pos q1,if_pos q1,Zh (by simp only [List.length_cons,List.length_nil];omega)]
   ·rw [if_neg q1,if_neg q1,List.append_nil])
  (by simp only [Yd,el,Int.lt_irrefl,if_false,List.nil_append])
def ZsE (L:List Zq) (c:Int) (y:Int) (l:List Int):List Int:=match L[y.toNat]? with
 | some x=>List.set l (Zq.To x).toNat ((l[(Zq.To x).toNat]?).getD 0+c)
 | none=>l
theorem ZoO {L:List Zq} {c:Int} {k:Nat} {x:Zq} (hx:L[k]?=some x) (l:List Int):ZsE L c (k:Int) l=List.set l (Zq.To x).toNat ((l[(Zq.To x).toNat]?).getD 0+c):=by
 unfold ZsE
 rw [Int.toNat_natCast,hx]
theorem Zn8 {live:List Bool} {L:List Zq} {n:Nat} (h:ZsC live L n):∀ k,k≤L.length→foldI (fun k x l=>foldI (fun _ y l=>ZsE L 1 y l) 0 (Zq4 live k x) l) 0 (L.take k) (List.replicate n 0)=Zjd n fun v=>(Zix live (L.take k) [] (v:Int):Int)
 | 0,_=>by
  rw [List.take_zero]
  apply List.ext_getElem?
  intro j
  by_cases hj:j<n
  ·rw [Zdq hj]
   simp only [foldI]
   rw [List.getElem?_replicate,if_pos hj]
   rfl
  ·rw [List.getElem?_eq_none (by simp only [foldI];rw [List.length_replicate];omega),List.getElem?_eq_none (by rw [Zdr];omega)]
 | k+1,hk=>by
  have hll:=h.ll
  have hx:L[k]?=some (L[k]'(by omega)):=List.getElem?_eq_getElem _
  have hlv:live[k]?=some (live[k]'(by omega)):=List.getElem?_eq_getElem _
  generalize L[k]'(by omega)=x at hx
  generalize live[k]'(by omega)=lv at hlv
  obtain ⟨_,t0,t1⟩:=h.bd x (List.mem_of_getElem? hx)
  rw [Zes hx,Zn8 h k (by omega)]
  unfold Zq4
  rw [hlv,Option.getD_some]
  by_cases q:lv=true
  ·rw [if_pos q]
   show ZsE L 1 (k:Int) _=_
   rw [ZoO hx,Zdq (by omega),Option.getD_some]
   refine ZoY (by omega) ?_ (fun j hj=>?_)
   ·rw [Za5 hx]
    unfold cw
    rw [hlv,Option.getD_some,if_pos q,if_pos (by omega),if_neg (by simp)]
    omega
   ·rw [Za5 hx]
    unfold cw
    rw [hlv,Option.getD_some,if_pos q,if_neg (by omega),Nat.add_zero]
  ·rw [if_neg q]
   show Zjd n _=Zjd n _
   unfold Zjd
   refine List.map_congr_left fun v _=>?_
   rw [Za5 hx]
   unfold cw
   rw [hlv,Option.getD_some,if_neg q,Nat.add_zero]
theorem Zr6 {b:Zd} (h:Qm b) {v:ZE} (hv:VOk b v) {live:List Bool} {n:Nat} (hB:ZsC live (Zx b) n) {R:List Int×Bool}
  (hR:Zm (fun u=>Yr (v,live,()) (Zjd n fun u=>(Zix live (Zx b) [] (u:Int):Int)) u.1 u.2.1 u.2.2.1) (([]:List Int),(0:Int),Zjd n (fun u=>(Zix live (Zx b) [] (u:Int):Int)),())=some (.inr R)) :
  Zm (fun u=>Xr (v,live,()) (cat (Zq4 live) 0 (Zx b)) u.1 u.2.1) ((0:Int),List.replicate n (0:Int),())=some R:=by
 have h6:=hB.few
 have el:ZE.links (Yp.view ((v,live,()):Yp))=Zx b:=hv.links
 have hC:=VQ (f:=Zq4 live) (c:=1) (l:=Zx b) (m:=0) (fun k x _=>Zq5 live k x)
 refine Zet (l:=cat (Zq4 live) 0 (Zx b)) (by unfold Len;omega) (fun s i=>(i,s,())) (f:=fun _ y s=>ZsE (Zx b) 1 y s) (s0:=List.replicate n (0:Int)) (fun k s=>s.length=n∧∀ z∈s,0≤z∧z≤(k:Int)) ⟨List.length_replicate,fun z hz=>by have:=List.eq_of_mem_replicate hz;omega⟩ (fun m y s hy hI _=>?_) (fun s hI he=>?_)
 ·obtain ⟨hsl,hsb⟩:=hI
  have hm:=(List.getElem?_eq_some_iff.1 hy).1
  obtain ⟨k,x,hx,hyx⟩:=Qw.1 (List.mem_of_getElem? hy)
  rw [Nat.zero_add] at hyx
  have ey:y=(k:Int):=by
   unfold Zq4 at hyx
   split at hyx
   ·exact List.mem_singleton.1 hyx
   ·cases hyx
  subst ey
  obtain ⟨_,t0,t1⟩:=hB.bd x (List.mem_of_getElem? hx)
  have hz:s[(Zq.To x).toNat]?=some (s[(Zq.To x).toNat]'(by omega)):=List.getElem?_eq_getElem _
  have hzb:=hsb _ (List.mem_of_getElem? hz)
  generalize s[(Zq.To x).toNat]'(by omega)=z at hz hzb
  have ei:ZsE (Zx b) 1 (k:Int) s=List.set s (Zq.To x).toNat (z+1):=by rw [ZoO hx,hz];rfl
  refine ⟨?_,?_⟩
  ·show Xr (v,live,()) _ (m:Int) s=_
   unfold Xr
   rw [if_pos (by omega),Zn,hy,Bq,el,Zn,hx,Bq,Qj t0 hz,Bq,YZ (n:=z+1) (by omega) (by omega),ei]
  ·rw [ei]
   refine ⟨by rw [List.length_set];exact hsl,fun w hw=>?_⟩
   rcases List.mem_or_eq_of_mem_set hw with q | q
   ·have:=hsb w q;omega
   ·omega
 ·rw [Zju (fun y s=>ZsE (Zx b) 1 y s)] at he
  have hcf:=Zn8 hB (Zx b).length (Nat.le_refl _)
  rw [List.take_length] at hcf
  rw [hcf] at he
  subst he
  show Xr (v,live,()) _ ((cat (Zq4 live) 0 (Zx b)).length:Int) _=_
  unfold Xr
  rw [if_neg (Int.lt_irrefl _)]
  exact hR
def dw (live:List Bool) (w v:Int) (k:Nat) (x:Zq):Nat:=if (live[k]?).getD false=true then (if Zq.To x=v then (if Zq.From x=w then 1 else 0) else 0) else 0
def ZvM (live:List Bool) (L:List Zq) (w v:Int):Nat:=foldI (fun k x s=>s+dw live w v k x) 0 L 0
theorem Zjn {live:List Bool} {L:List Zq} {w v:Int} {k:Nat} {x:Zq} (hx:L[k]?=some x):ZvM live (L.take (k+1)) w v=ZvM live (L.take k) w v+dw live w v k x:=by
 unfold ZvM
 rw [Zes hx]
theorem Zuz (live:List Bool) {out:List Int} {w:Int} (hw:w ∉ out) (v:Int) (k:Nat) (x:Zq):cw live out v k x=cw live (out++[w]) v k x+dw live w v k x:=by
 unfold cw dw
 split
 ·split
  ·by_cases q:Zq.From x∈out
   ·rw [if_pos q,if_pos (List.mem_append.2 (.inl q)),if_neg (fun e=>hw (by rw [←e];exact q))]
   ·rw [if_neg q]
    by_cases e:Zq.From x=w
    ·rw [if_pos (List.mem_append.2 (.inr (List.mem_singleton.2 e))),if_pos e]
    ·rw [if_neg (fun z=>by rcases List.mem_append.1 z with z | z;exact q z;exact e (List.mem_singleton.1 z)),if_neg e]
  ·rfl
 ·rfl
theorem Zkl (live:List Bool) (L:List Zq) {out:List Int} {w:Int} (hw:w ∉ out) (v:Int):∀ k,k≤L.length→Zix live (L.take k) out v=Zix live (L.take k) (out++[w]) v+ZvM live (L.take k) w v
 | 0,_=>rfl
 | k+1,hk=>by
  have hx:L[k]?=some (L[k]'(by omega)):=List.getElem?_eq_getElem _
  rw [Za5 hx,Za5 hx,Zjn hx,Zkl live L hw v k (by omega),Zuz live hw v k]
  omega
theorem Zxo (live:List Bool) (L:List Zq) (out:List Int) (v:Int):∀ (m k:Nat) (x:Zq),m≤L.length→k<m→L[k]?=some x→cw live out v k x≤Zix live (L.take m) out v
 | 0,k,x,_,hk,_=>by omega
 | m+1,k,x,hm,hk,hx=>by
  have hy:L[m]?=some (L[m]'(by omega)):=List.getElem?_eq_getElem _
  rw [Za5 hy]
  by_cases e:k=m
  ·subst e
   rw [hx] at hy
   injection hy with hy
   rw [←hy]
   omega
  ·have:=Zxo live L out v m k x (by omega) (by omega) hx
   omega
noncomputable def opn (live:List Bool) (L:List Zq) (out:List Int) (u:Nat):Int:=if (u:Int)∈out then -1 else (Zix live L out (u:Int):Int)
def Clo (live:List Bool) (L:List Zq) (out:List Int):Prop:=∀ u∈out,Zix live L out u=0
theorem Zq9 {live:List Bool} {L:List Zq} {n:Nat} (h:ZsC live L n) {out:List Int} {w:Nat} (hw:w<n) (hn:(w:Int) ∉ out) (hc:Zix live L out (w:Int)=0) (hcl:Clo live L out):∀ k,k≤L.length→
  foldI (fun k x l=>foldI (fun _ y l=>ZsE L (-1) y l) 0 (Zns live (w:Int) k x) l) 0 (L.take k) (List.set (Zjd n (opn live L out)) w (-1))=Zjd n fun u=>if (u:Int)∈out++[(w:Int)] then -1 else (Zix live L out (u:Int):Int)-(ZvM live (L.take k) (w:Int) (u:Int):Int)
 | 0,_=>by
  rw [List.take_zero]
  simp only [foldI]
  refine ZoY hw ?_ (fun j hj=>?_)
  ·rw [if_pos (List.mem_append.2 (.inr (List.mem_singleton.2 rfl)))]
  ·unfold opn
   by_cases q:(j:Int)∈out
   ·rw [if_pos q,if_pos (List.mem_append.2 (.inl q))]
   ·rw [if_neg q,if_neg (fun z=>by
     rcases List.mem_append.1 z with z | z
     ·exact q z
     ·have:=List.mem_singleton.1 z;omega)]
    show _-((0:Nat):Int)=_
    omega
 | k+1,hk=>by
  have hll:=h.ll
  have hx:L[k]?=some (L[k]'(by omega)):=List.getElem?_eq_getElem _
  have hlv:live[k]?=some (live[k]'(by omega)):=List.getElem?_eq_getElem _
  generalize L[k]'(by omega)=x at hx
  generalize live[k]'(by omega)=lv at hlv
  obtain ⟨_,t0,t1⟩:=h.bd x (List.mem_of_getElem? hx)
  rw [Zes hx,Zq9 h hw hn hc hcl k (by omega)]
  have hle:=Zxo live L out (Zq.To x) L.length k x (Nat.le_refl _) (by omega) hx
  rw [List.take_length] at hle
  have hsame:(∀ u:Int,dw live (w:Int) u k x=0)→Zjd n (fun u=>if (u:Int)∈out++[(w:Int)] then -1 else (Zix live L out (u:Int):Int)-(ZvM live (L.take k) (w:Int) (u:Int):Int))=Zjd n fun u=>if (u:Int)∈out++[(w:Int)] then -1 else (Zix live L out (u:Int):Int)-(ZvM live (L.take (k+1)) (w:Int) (u:Int):Int):=fun hz=>by
   unfold Zjd
   refine List.map_congr_left fun u _=>?_
   rw [Zjn hx,hz,Nat.add_zero]
  unfold Zns
  rw [hlv,Option.getD_some]
  by_cases q:lv=true
  ·rw [if_pos q]
   by_cases qf:Zq.From x=(w:Int)
   ·rw [if_pos qf]
    have hcw:cw live out (Zq.To x) k x=1:=by
     unfold cw
     rw [hlv,Option.getD_some,if_pos q,if_pos rfl,if_neg (by rw [qf];exact hn)]
    have hto:Zq.To x ∉ out++[(w:Int)]:=fun z=>by
     rcases List.mem_append.1 z with z | z
     ·have:=hcl _ z;omega
     ·rw [List.mem_singleton.1 z,hc] at hle
      rw [List.mem_singleton.1 z] at hcw
      omega
    show ZsE L (-1) (k:Int) _=_
    rw [ZoO hx,Zdq (by omega),Option.getD_some,show (((Zq.To x).toNat:Nat):Int)=Zq.To x by omega,if_neg hto]
    refine ZoY (by omega) ?_ (fun j hj=>?_)
    ·rw [show (((Zq.To x).toNat:Nat):Int)=Zq.To x by omega,if_neg hto,Zjn hx]
     unfold dw
     rw [hlv,Option.getD_some,if_pos q,if_pos rfl,if_pos qf]
     omega
    ·have hd:dw live (w:Int) (j:Int) k x=0:=by
      unfold dw
      rw [hlv,Option.getD_some,if_pos q,if_neg (by omega)]
     rw [Zjn hx,hd,Nat.add_zero]
   ·rw [if_neg qf]
    exact hsame fun u=>by unfold dw;rw [hlv,Option.getD_some,if_pos q,if_neg qf];split<;>rfl
  ·rw [if_neg q]
   exact hsame fun u=>by unfold dw;rw [hlv,Option.getD_some,if_neg q]
/-
  Plain laws: nodes in order: the program's order is the reference's.
-/
theorem ZsY (live:List Bool) (L:List Zq) (out:List Int) (v:Int):∀ k,k≤L.length→Zix live (L.take k) out v≤k
 | 0,_=>Nat.le_refl _
 | k+1,hk=>by
  have hx:L[k]?=some (L[k]'(by omega)):=List.getElem?_eq_getElem _
  rw [Za5 hx]
  have:=ZsY live L out v k (by omega)
  have h1:cw live out v k (L[k]'(by omega))≤1:=by
   unfold cw
   split
   ·split
    ·split<;>omega
    ·omega
   ·omega
  omega
theorem ZxC {live:List Bool} {L:List Zq} {n:Nat} (h:ZsC live L n) (out:List Int) (u:Nat):-1≤opn live L out u∧opn live L out u≤6000:=by
 have h1:=ZsY live L out (u:Int) L.length (Nat.le_refl _)
 have h2:=h.few
 rw [List.take_length] at h1
 unfold opn
 split<;>omega
theorem Zuv {live:List Bool} {L:List Zq} {out:List Int} {w:Int} (hn:w ∉ out) (hc:Zix live L out w=0) (hcl:Clo live L out):Clo live L (out++[w]):=by
 intro u hu
 have hs:=Zkl live L hn u L.length (Nat.le_refl _)
 rw [List.take_length] at hs
 rcases List.mem_append.1 hu with q | q
 ·have:=hcl u q
  omega
 ·rw [List.mem_singleton.1 q] at hs ⊢
  omega
theorem Ztn {b:Zd} {live:List Bool} {w y:Int} (hy:y∈Zpv b live w):∃ (k:Nat) (x:Zq),y=(k:Int)∧(Zx b)[k]?=some x∧Zq.From x=w:=by
 obtain ⟨k,x,hx,hyx⟩:=Qw.1 hy
 rw [Nat.zero_add] at hyx
 unfold Zns at hyx
 split at hyx
 ·split at hyx
  ·rename_i q
   exact ⟨k,x,List.mem_singleton.1 hyx,hx,q⟩
  ·cases hyx
 ·cases hyx
theorem ZuB {b:Zd} (h:Qm b) {v:ZE} (hv:VOk b v) {live:List Bool} {n:Nat} (hB:ZsC live (Zx b) n) {out:List Int} {w:Nat} (hw:w<n) (hn:(w:Int) ∉ out) (hc:Zix live (Zx b) out (w:Int)=0) (hcl:Clo live (Zx b) out) (i:Int) :
  Zm (fun u=>Xq (v,live,()) out i (w:Int) (Zpv b live (w:Int)) u.1 u.2.1) ((0:Int),List.set (Zjd n (opn live (Zx b) out)) w (-1:Int),()) =
   some (.inl (out++[(w:Int)],Wq (i+1),Zjd n (opn live (Zx b) (out++[(w:Int)])),())):=by
 have h6:=hB.few
 have el:ZE.links (Yp.view ((v,live,()):Yp))=Zx b:=hv.links
 have hlen:(Zpv b live (w:Int)).length≤6000:=by
  have:=Zpw h live (w:Int) (Zx b).length
  rw [List.take_length] at this
  exact this
 refine Zet (l:=Zpv b live (w:Int)) (by unfold Len;omega) (fun s i=>(i,s,())) (f:=fun _ y s=>ZsE (Zx b) (-1) y s) (s0:=List.set (Zjd n (opn live (Zx b) out)) w (-1:Int)) (fun k s=>s.length=n∧∀ z∈s,-1-(k:Int)≤z∧z≤6000) ⟨by rw [List.length_set,Zdr],fun z hz=>?_⟩ (fun m y s hy hI _=>?_) (fun s hI he=>?_)
 ·rcases List.mem_or_eq_of_mem_set hz with q | q
  ·unfold Zjd at q
   obtain ⟨u,_,rfl⟩:=List.mem_map.1 q
   have:=ZxC hB out u
   omega
  ·omega
 ·obtain ⟨hsl,hsb⟩:=hI
  have hm:=(List.getElem?_eq_some_iff.1 hy).1
  obtain ⟨k,x,rfl,hx,_⟩:=Ztn (List.mem_of_getElem? hy)
  obtain ⟨_,t0,t1⟩:=hB.bd x (List.mem_of_getElem? hx)
  have hz:s[(Zq.To x).toNat]?=some (s[(Zq.To x).toNat]'(by omega)):=List.getElem?_eq_getElem _
  have hzb:=hsb _ (List.mem_of_getElem? hz)
  generalize s[(Zq.To x).toNat]'(by omega)=z at hz hzb
  have ei:ZsE (Zx b) (-1) (k:Int) s=List.set s (Zq.To x).toNat (z-1):=by rw [ZoO hx,hz];rfl
  refine ⟨?_,?_⟩
  ·show Xq (v,live,()) out i (w:Int) _ (m:Int) s=_
   unfold Xq
   rw [if_pos (by omega),Zn,hy,Bq,el,Zn,hx,Bq,Qj t0 hz,Bq,YZ (n:=z-1) (by omega) (by omega),ei]
  ·rw [ei]
   refine ⟨by rw [List.length_set];exact hsl,fun z' hz'=>?_⟩
   rcases List.mem_or_eq_of_mem_set hz' with q | q
   ·have:=hsb z' q;omega
   ·omega
 ·have hd:=Zq9 hB hw hn hc hcl (Zx b).length (Nat.le_refl _)
  unfold Zpv at he
  rw [Zju (fun y s=>ZsE (Zx b) (-1) y s)] at he
  rw [List.take_length] at hd
  rw [hd] at he
  subst he
  show Xq (v,live,()) out i (w:Int) _ ((Zpv b live (w:Int)).length:Int) _=_
  unfold Xq
  rw [if_neg (Int.lt_irrefl _)]
  congr 6
  unfold Zjd
  refine List.map_congr_left fun u _=>?_
  have hs:=Zkl live (Zx b) hn (u:Int) (Zx b).length (Nat.le_refl _)
  rw [List.take_length] at hs
  unfold opn
  split
  ·rfl
  ·omega
theorem ZxA (live:List Bool) (L:List Zq) (n:Nat) (out:List Int):(List.range n).find? (fun v=>decide (opn live L out v=0))=nxt live L n out:=by
 unfold nxt
 congr 1
 funext v
 unfold opn
 by_cases q:(v:Int)∈out
 ·rw [if_pos q,decide_eq_false (by omega),decide_eq_false (fun z=>z q),Bool.false_and]
 ·rw [if_neg q,decide_eq_true q,Bool.true_and,decide_eq_decide]
  omega
theorem Zmo {b:Zd} (h:Qm b) {v:ZE} (hv:VOk b v) {live:List Bool} {n:Nat} (hB:ZsC live (Zx b) n) {l0:List Int} (hl0:l0.length=n):∀ (m:Nat) (out:List Int),out.length+m=n→Clo live (Zx b) out→
  Zm (fun u=>Yr (v,live,()) l0 u.1 u.2.1 u.2.2.1) (out,(out.length:Int),Zjd n (opn live (Zx b) out),())=some (.inr (Zvt live (Zx b) n m out))
 | 0,out,hm,hcl=>by
  refine Xe ?_
  show Yr (v,live,()) l0 out (out.length:Int) _=_
  unfold Yr
  rw [if_neg (by omega)]
  rfl
 | m+1,out,hm,hcl=>by
  have hn:=hB.n0
  have hi:=Zsd (p:=opn live (Zx b) out) hB.n0
  rw [ZxA] at hi
  unfold Zvt
  cases e:nxt live (Zx b) n out with
  | none =>
   rw [e] at hi
   refine Xe ?_
   show Yr (v,live,()) l0 out (out.length:Int) _=_
   unfold Yr
   rw [if_pos (by omega),hi]
   rfl
  | some w =>
   rw [e] at hi
   have e':=e
   unfold nxt at e'
   rw [List.find?_range_eq_some] at e'
   obtain ⟨hp,hw,_⟩:=e'
   have hw:=List.mem_range.1 hw
   rw [Bool.and_eq_true,decide_eq_true_eq,decide_eq_true_eq] at hp
   have hstep:Yr (v,live,()) l0 out (out.length:Int) (Zjd n (opn live (Zx b) out))=some (.inl (out++[(w:Int)],((out++[(w:Int)]).length:Int),Zjd n (opn live (Zx b) (out++[(w:Int)])),())):=by
    unfold Yr
    rw [if_pos (by omega),hi,Bq]
    show (if (w:Int)<0 then _ else _)=_
    rw [if_neg (by omega),Zn,Zdq hw,Bq,Zh (by simp only [List.length_cons,List.length_nil];omega),ZoK h hv hB.ll,Bq,Int.toNat_natCast,ZuB h hv hB hw hp.1 hp.2 hcl,Xo (by omega)]
    rw [List.length_append]
    rfl
   exact (Xh hstep).trans (Zmo h hv hB hl0 m (out++[(w:Int)]) (by rw [List.length_append];simp only [List.length_cons,List.length_nil];omega) (Zuv hp.1 hp.2 hcl))
theorem ZoN {b:Zd} (h:Qm b) {v:ZE} (hv:VOk b v) {live:List Bool} {n:Nat} (hB:ZsC live (Zx b) n) (hn:YM v=some (n:Int)):Vg (v,live,())=some (Zvt live (Zx b) n n []):=by
 have h1:=hB.n0
 unfold Vg
 show (YM v).bind _=_
 rw [hn,Bq,Zh (by omega),Zh (by omega),Zh (by omega),Zh (by omega),Zox h hv hB.ll,Bq,Int.toNat_natCast]
 refine Zr6 h hv hB ?_
 have:=Zmo h hv hB (l0:=Zjd n fun u=>(Zix live (Zx b) [] (u:Int):Int)) (Zdr _ _) n [] (by simp) (fun u hu=>by cases hu)
 have e:Zjd n (opn live (Zx b) [])=Zjd n fun u=>(Zix live (Zx b) [] (u:Int):Int):=by
  unfold Zjd
  refine List.map_congr_left fun u _=>?_
  unfold opn
  rw [if_neg (by simp)]
 rw [e] at this
 exact this
/-
  Plain laws: the graph of a timing: program and reference ask the same of their arguments.
-/
abbrev ZeJ (b:Zd):Nat:=2*(places (Zd.Design b)).length
abbrev Zje (b:Zd) (br:List Int):List Bool:=Zd5 (Zx b).length br
def ZqN (b:Zd) (br:List Int):List Int×Bool:=Zvt (Zje b br) (Zx b) (ZeJ b) (ZeJ b) []
theorem nN (b:Zd):ZeJ b=2*(places (Zd.Design b)).length:=rfl
theorem Zj1 {b:Zd} (h:Qm b):ZeJ b≤156:=by
 have:=X5 h.ok.1.few
 have:=nN b
 omega
theorem ZBv {b:Zd} (h:Qm b) (br:List Int):ZsC (Zje b br) (Zx b) (ZeJ b) where
 few:=Qv h
 ll:=ZkU _ _
 n0:=by have:=Zj1 h;omega
 bd:=fun x hx=>by
  have:=Zf3 h hx
  have:=nN b
  omega
theorem ZrI {b:Zd} (h:Qm b) {v:ZE} (hv:VOk b v):YM v=some (ZeJ b:Int):=by
 have:=Zj1 h
 have e:=nN b
 unfold YM
 rw [show Qb (ZE.places v)=some ((ZE.places v).length:Int) from rfl,Bq,hv.places,YZ (by omega) (by omega)]
 congr 1
theorem ZqF {b:Zd} (h:Qm b) {v:ZE} (hv:VOk b v) {br:List Int} (hbr:br.length≤1048576):Vq v br=some (tr (Zoq ((Zx b).length:Int) br)):=by
 have hLs:=Qv h
 unfold Vq
 rw [show J8 (ZE.links v)=some ((ZE.links v).length:Int) from rfl,Bq,hv.links,YZ (by omega) (by omega)]
 exact ZqE br _ hbr
theorem Zoc {b:Zd} (h:Qm b) {br:List Int} (hbr:br.length≤1048576):ZdK b br=some (sel (Zoq ((Zx b).length:Int) br) 0 2):=by
 have hLs:=Qv h
 unfold ZdK
 rw [ZeM b h.sm,Bq,if_pos (Yc h.ok),ZdX h,Bq,Zk8 br _ hbr (by omega),Bq]
 by_cases q:Zoq ((Zx b).length:Int) br
 ·rw [if_pos (Yc q),XU q]
 ·rw [if_neg (fun z=>q ((Xx _).1 z)),Xu q]
theorem Ze5 {b:Zd} (h:Qm b):QH b=some (ZeJ b:Int):=by
 rw [ZlX h.ok.1.few]
 congr 1
theorem ZwV {b:Zd} (h:Qm b) {br:List Int} (hbr:br.length≤1048576) (hR:Zoq ((Zx b).length:Int) br):Vw b br=some (if (ZqN b br).2=true then ((ZqN b br).1,0) else ([],7)):=by
 have hLs:=Qv h
 unfold Vw
 rw [Zoc h hbr,Bq,XU hR,if_pos rfl,ZdX h,Bq,Ze5 h,Bq,ZhQ _ _ hLs hbr,Bq,Zo9 (ZBv h br),Bq]
 show (if (ZqN b br).2=true then _ else _)=_
 split<;>rfl
theorem Zu4 {b:Zd} (h:Qm b) {v:ZE} (hv:VOk b v) (br:List Int):Vg (v,Zje b br,())=some (ZqN b br) :=
 ZoN h hv (ZBv h br) (ZrI h hv)
theorem Zsc {b:Zd} (h:Qm b) {v:ZE} (hv:VOk b v) {br:List Int} (hbr:br.length≤1048576) (hR:Zoq ((Zx b).length:Int) br):QO v br=some (v,Zje b br,()):=by
 have hLs:=Qv h
 have:=Zsb v br (by rw [hv.links];exact hLs) (by rw [hv.links];exact hR.1) hbr
 rw [hv.links] at this
 exact this
theorem ZDW {b:Zd} {t:Zk} (ht:Zqn (2*((places (Zd.Design b)).length:Int)) t):ZsL (ZeJ b) t:=by
 obtain ⟨h1,h2,h3,h4⟩:=ht
 have e0:=nN b
 refine ⟨by omega,by omega,by omega,fun s hs=>?_⟩
 obtain ⟨k,hk⟩:=List.mem_iff_getElem?.1 hs
 have hl:=(List.getElem?_eq_some_iff.1 hk).1
 obtain ⟨a,s',_,e,_,e2,_⟩:=h4 k _ (List.getElem?_eq_getElem (show k<(Zk.Reached t).length by omega))
 rw [hk] at e
 injection e with e
 subst e
 obtain ⟨z1,z2,z3⟩:=e2
 exact ⟨⟨by omega,by omega⟩,by omega,by omega⟩
theorem Zt1 {n:Int} {l:List Zj} (h:Zeq l (Zda n l)) {i:Nat} {x:Zj} (hx:l[i]?=some x):∀ (m:Nat) (y:Zj),l[i+m+1]?=some y→Zj.Node x<Zj.Node y
 | 0,y,hy=>(h (i+1) y hy).2.1 x (by omega) hx
 | m+1,y,hy=>by
  have hl:=(List.getElem?_eq_some_iff.1 hy).1
  have hz:l[i+m+1]?=some (l[i+m+1]'(by omega)):=List.getElem?_eq_getElem _
  have h1:=Zt1 h hx m _ hz
  have h2:=(h (i+m+1+1) y hy).2.1 _ (by omega) hz
  omega
theorem ZxB {n:Int} {l:List Zj} (h:Zeq l (Zda n l)):Zq3 l:=by
 intro i j x y hx hy he
 rcases Nat.lt_trichotomy i j with q | q | q
 ·have:=Zt1 h hx (j-i-1) y (by rw [show i+(j-i-1)+1=j by omega];exact hy)
  omega
 ·exact q
 ·have:=Zt1 h hy (i-j-1) x (by rw [show j+(i-j-1)+1=i by omega];exact hx)
  omega
structure Zxb (b:Zd) (c:Zv) (br:List Int) (l:List Zj):Prop where
 blk:Qm b
 cor:JL c
 ris:Zoq ((Zx b).length:Int) br
 src:Zeq l (Zda (2*((places (Zd.Design b)).length:Int)) l)
 ord:(ZqN b br).2=true
theorem Zw0 (b:Zd) (c:Zv) (br:List Int) (l:List Zj) (t:Zk) (hb:sm Yt b) (hc:sm X3 c) (hbr:br.length≤1048576) (hl:l.length≤1048576) :
  (∃ code:Int,code≠0∧Ju b c br l (some t)=some (none,[],code)∧ZdN b c br l t=some code)∨
  (∃ v,Zxb b c br l∧Zqn (2*((places (Zd.Design b)).length:Int)) t∧VOk b v∧Ju b c br l (some t)=some (some (v,Zje b br,()),(ZqN b br).1,0)∧ZdN b c br l t=some 0):=by
 unfold Ju ZdN
 rw [ZeM b hb,Zmj b hb,Bq,Bq]
 by_cases hB:Zkj b
 rotate_left
 ·rw [if_neg (fun q=>hB ((Xx _).1 q)),if_neg (fun q=>hB ((Xx _).1 q))]
  exact .inl ⟨1,by decide,rfl,rfl⟩
 have h:Qm b:=⟨hB,hb⟩
 rw [if_pos (Yc hB),if_pos (Yc hB),ZgP c hc,Zlt c,Bq,Bq]
 by_cases hC:JL c
 rotate_left
 ·rw [if_neg (fun q=>hC ((Xx _).1 q)),if_neg (fun q=>hC ((Xx _).1 q))]
  exact .inl ⟨1,by decide,rfl,rfl⟩
 obtain ⟨v,hv1,hv⟩:=ZwZ h
 have hn:=Zj1 h
 have e0:=nN b
 rw [if_pos (Yc hC),if_pos (Yc hC),hv1,Bq,if_neg (by simp),Bq,Zlw h v hv.places t,Ze5 h,Bq,Bq,Zk9 (by omega) (by omega) t,Bq,show ((ZeJ b:Nat):Int)=2*((places (Zd.Design b)).length:Int) by omega]
 by_cases hT:Zqn (2*((places (Zd.Design b)).length:Int)) t
 rotate_left
 ·rw [if_neg (fun q=>hT ((Xx _).1 q)),if_neg (fun q=>hT ((Xx _).1 q))]
  exact .inl ⟨1,by decide,rfl,rfl⟩
 rw [if_pos (Yc hT),if_pos (Yc hT)]
 unfold ZhR
 rw [ZeM b hb,Bq,if_pos (Yc hB),ZgP c hc,Bq,if_pos (Yc hC),Zoc h hbr,ZqF h hv hbr,Bq,Bq]
 by_cases hR:Zoq ((Zx b).length:Int) br
 rotate_left
 ·rw [if_neg (fun q=>hR ((Xx _).1 q)),Xu hR,if_neg (by decide)]
  exact .inl ⟨2,by decide,rfl,rfl⟩
 rw [if_pos (Yc hR),XU hR,if_pos rfl,ZjB h v hv.places l hl,Zkd h l hl,Bq,Bq]
 by_cases hS:Zeq l (Zda (2*((places (Zd.Design b)).length:Int)) l)
 rotate_left
 ·rw [if_neg (fun q=>hS ((Xx _).1 q)),if_neg (fun q=>hS ((Xx _).1 q))]
  exact .inl ⟨2,by decide,rfl,rfl⟩
 rw [if_pos (Yc hS),if_pos (Yc hS),Zsc h hv hbr hR,Bq,Zu4 h hv br,ZwV h hbr hR,Bq,Bq]
 by_cases hO:(ZqN b br).2=true
 rotate_left
 ·rw [if_neg hO,if_neg hO]
  exact .inl ⟨7,by decide,rfl,rfl⟩
 rw [if_pos hO,if_pos hO]
 exact .inr ⟨v,⟨h,hC,hR,hS,hO⟩,hT,hv,rfl,rfl⟩
/-
  Plain laws: the wrong nodes of a timing.
-/
def eqS (a b:Zu):Bool:=decide (Zu.Early a=Zu.Early b)&&decide (Zu.Late a=Zu.Late b)
theorem Zrg (a b:Zu):eqS a b=eqS b a:=by
 unfold eqS
 congr 1<;>exact decide_eq_decide.2 ⟨Eq.symm,Eq.symm⟩
def ZvL (x:Bool) (a s:Zu) (r:Bool×Zj):Bool:=if (x == r.1)=true then (if eqS a (Zj.ZB r.2)=true then !(eqS s (Zj.X7 r.2)) else true) else true
def ZBw (t:Zk) (k:Nat) (r:Bool×Zj):Zk:=(List.set (Zk.Reached t) k r.1,List.set (Zk.ZB t) k (Zj.ZB r.2),List.set (Zk.X7 t) k (Zj.X7 r.2),())
theorem ZxK {t:Zk} {k:Nat} {x:Bool} {a s:Zu} (hx:atI (Zk.Reached t) (k:Int)=some x) (ha:atI (Zk.ZB t) (k:Int)=some a) (hs:atI (Zk.X7 t) (k:Int)=some s) (node:Int) (st:NSt) :
  ZgA t (k:Int) (ZrQ node st).1 (ZrQ node st).2=some (ZvL x a s (ZrQ node st),ZBw t k (ZrQ node st)):=by
 unfold ZgA ZvL ZBw
 cases st with
 | none =>
  show (if false=true then _ else (atI (Zk.Reached t) (k:Int)).bind _)=_
  rw [if_neg (by decide),hx,Bq,ha,Bq,hs,Bq,Bq,Int.toNat_natCast]
  show (if (x == false)=true then (if eqS a Znj=true then _ else _) else _)=some (if (x == false)=true then (if eqS a Znj=true then _ else _) else _,_)
  split
  ·split
   ·rfl
   ·rfl
  ·rfl
 | some q =>
  show (if true=true then (atI (Zk.Reached t) (k:Int)).bind _ else _)=_
  rw [if_pos rfl,hx,Bq,ha,Bq,hs,Bq,Bq,Int.toNat_natCast]
  show (if (x == true)=true then (if eqS a q.1=true then _ else _) else _)=some (if (x == true)=true then (if eqS a q.1=true then _ else _) else _,_)
  split
  ·split
   ·rfl
   ·rfl
  ·rfl
theorem ZxD {t:Zk} {n:Nat} (ht:ZsL n t) (hn:n≤1048576):Zgz t=some t:=by
 have h1:=ht.lr
 have h2:=ht.la
 have h3:=ht.ls
 unfold Zgz
 rw [Zh (by simp only [List.length_nil];omega),Zh (by simp only [List.length_nil];omega),Zh (by simp only [List.length_nil];omega),List.nil_append,List.nil_append,List.nil_append]
theorem Zt6 {t:Zk} {n k:Nat} (ht:ZsL n t) (hk:k<n):∃ x a s,atI (Zk.Reached t) (k:Int)=some x∧atI (Zk.ZB t) (k:Int)=some a∧atI (Zk.X7 t) (k:Int)=some s:=by
 have h1:=ht.lr
 have h2:=ht.la
 have h3:=ht.ls
 exact ⟨_,_,_,by rw [Zn];exact List.getElem?_eq_getElem (by omega),by rw [Zn];exact List.getElem?_eq_getElem (by omega),by rw [Zn];exact List.getElem?_eq_getElem (by omega)⟩
noncomputable def Zlo (b:Zd) (c:Zv) (live:List Bool) (l:List Zj) (t:Zk) (k:Nat):Bool :=
 ZvL ((atI (Zk.Reached t) (k:Int)).getD false) ((atI (Zk.ZB t) (k:Int)).getD Znj) ((atI (Zk.X7 t) (k:Int)).getD Znj) (ZrQ (k:Int) (Zj5 b c live l t (k:Int)))
/-
  Plain laws: marks, exactly; marks are held. Printed by program (heldgen.py).
-/
set_option maxHeartbeats 3200000
noncomputable def mt (k:Int):List UInt8:=(Vr k).getD []
theorem ZFt {α:Type} {L:List α} {j:Nat} {z z':α} {A A' B B':Int} (hA:A=A') (hB:B=B') (hz:z=z'):(some (.inl (A,B,List.set L j z,())):Option ((Int×Int×List α×Unit) ⊕ (Int×List α)))=some (.inl (A',B',List.set L j z',())):=by rw [hA,hB,hz]
theorem ZFs {A A' B B':Int} (hA:A=A') (hB:B=B'):(some (.inl (A,B,())):Option ((Int×Int×Unit) ⊕ Int))=some (.inl (A',B',())):=by rw [hA,hB]
theorem ZFo (l:List (Int)) (k:Int) (hs:sm (.sl (.int .i64)) l) (h0:0≤k) (h1:k+((cnt (.sl (.int .i64)) l:Nat):Int)≤4611686018427387904):Ya l k=some (k+((cnt (.sl (.int .i64)) l:Nat):Int),mkL (mkA mt (.int .i64)) (cnt (.int .i64)) l k):=by
 unfold Ya
 have hl:l.length≤1048576:=by have:=hs.1;omega
 refine ZFS (f:=mkA mt (.int .i64)) (c:=cnt (.int .i64)) (fun j m x L hj hj' hx hxm hm0 hm1 hj2=>?_) (fun m L=>?_) hl h0 h1
 ·have hsx:=hs.2 x hxm
  have hc:((cnt (.int .i64) x:Nat):Int)=0+1:=by rfl
  simp (disch:=omega) only [Qo,if_pos hj',Zn,hx,Bq,YZ,Int.toNat_natCast,ZdQ,List.length_set,List.set_set,List.getElem?_set_self]
  refine ZFt ?_ ?_ rfl
  ·have hc:=hc;omega
  ·omega
 ·simp only [Qo,Int.lt_irrefl,if_false]
theorem ZFr (l:List (Bool)) (k:Int) (hs:sm (.sl (.bool)) l) (h0:0≤k) (h1:k+((cnt (.sl (.bool)) l:Nat):Int)≤4611686018427387904):Zdj l k=some (k+((cnt (.sl (.bool)) l:Nat):Int),mkL (mkA mt (.bool)) (cnt (.bool)) l k):=by
 unfold Zdj
 have hl:l.length≤1048576:=by have:=hs.1;omega
 refine ZFS (f:=mkA mt (.bool)) (c:=cnt (.bool)) (fun j m x L hj hj' hx hxm hm0 hm1 hj2=>?_) (fun m L=>?_) hl h0 h1
 ·have hsx:=hs.2 x hxm
  have hc:((cnt (.bool) x:Nat):Int)=0+1:=by rfl
  simp (disch:=omega) only [ZaQ,if_pos hj',Zn,hx,Bq,YZ,Int.toNat_natCast,ZdQ,List.length_set,List.set_set,List.getElem?_set_self]
  refine ZFt ?_ ?_ rfl
  ·have hc:=hc;omega
  ·omega
 ·simp only [ZaQ,Int.lt_irrefl,if_false]
theorem ZEM (l:List (Zu)) (k:Int) (hs:sm (.sl (XJ)) l) (h0:0≤k) (h1:k+((cnt (.sl (XJ)) l:Nat):Int)≤4611686018427387904):Za7 l k=some (k+((cnt (.sl (XJ)) l:Nat):Int),mkL (mkA mt (XJ)) (cnt (XJ)) l k):=by
 unfold Za7
 have hl:l.length≤1048576:=by have:=hs.1;omega
 refine ZFS (f:=mkA mt (XJ)) (c:=cnt (XJ)) (fun j m x L hj hj' hx hxm hm0 hm1 hj2=>?_) (fun m L=>?_) hl h0 h1
 ·have hsx:=hs.2 x hxm
  have hc:((cnt (XJ) x:Nat):Int)=0+1+1:=by simp only [Zav,Zb6,Zau,Zaw,ZcT];omega
  have hx2:atI L (j:Int)=some x:=by rw [Zn];exact hx
  have hb:∀ {β:Type} (y:Zu) (F:Zu→Option β),(atI (List.set L j y) (j:Int)).bind F=F y:=fun y F=>by rw [ZdQ hj];rfl
  simp only [ZaT,if_pos hj',Int.toNat_natCast,hx2,↓hb,Bq,List.set_set]
  refine ZFt ?_ ?_ ?_
  ·have hc:=hc;simp (disch:=omega) only [YZ];omega
  ·simp (disch:=omega) only [YZ];omega
  ·simp (disch:=omega) only [YZ];rfl
 ·simp only [ZaT,Int.lt_irrefl,if_false]
theorem ZEF (a:Zk) (k:Int) (hs:sm (Xd) a) (h0:0≤k) (h1:k+((ZFD (Xd) a:Nat):Int)≤4611686018427387904):Zcs a k=some (k+((ZFD (Xd) a:Nat):Int),mkT mt (Xd) a k):=by
 unfold Zcs
 have hc:((ZFD (Xd) a:Nat):Int)=0+(((cnt (.sl (.bool)) a.1):Nat):Int)+(((cnt (.sl (XJ)) a.2.1):Nat):Int)+(((cnt (.sl (XJ)) a.2.2.1):Nat):Int):=by simp only [ZFD];omega
 have e0:=ZFr a.1 (k) hs.1 (by omega) (by omega)
 have e1:=ZEM a.2.1 (k+(((cnt (.sl (.bool)) a.1):Nat):Int)) hs.2.1 (by omega) (by omega)
 have e2:=ZEM a.2.2.1 (k+(((cnt (.sl (.bool)) a.1):Nat):Int)+(((cnt (.sl (XJ)) a.2.1):Nat):Int)) hs.2.2.1 (by omega) (by omega)
 simp only [Bq,e0,e1,e2]
 refine congrArg some (Prod.ext (by show _=k+_;rw [hc];omega) rfl)
theorem ZFq (l:List (Bool)) (k:Int) (hs:sm (.sl (.bool)) l) (h0:0≤k) (h1:k+((cnt (.sl (.bool)) l:Nat):Int)≤4611686018427387904):ZEx (mkL (mkA mt (.bool)) (cnt (.bool)) l k) k=some (k+((cnt (.sl (.bool)) l:Nat):Int)):=by
 unfold ZEx
 have hl:l.length≤1048576:=by have:=hs.1;omega
 refine ZFy (f:=mkA mt (.bool)) (c:=cnt (.bool)) (step:=fun v=>ZEl (mkL (mkA mt (.bool)) (cnt (.bool)) l k) v.1 v.2.1) (fun j m x hj hx hxm hm0 hm1 hj2=>?_) (fun m=>?_) hl h0 h1
 ·have hsx:=hs.2 x hxm
  have hc:((cnt (.bool) x:Nat):Int)=0+1:=by rfl
  have f0:mkA mt (.bool) x m=decide (Int.tmod (m) 3=0):=rfl
  simp (disch:=omega) only [ZEl,if_pos hj,Zn,hx,Bq,YZ,eq_self,if_true,if_false,beq_self_eq_true,f0]
  refine ZFs ?_ ?_
  ·have hc:=hc;omega
  ·omega
 ·simp only [ZEl,Int.lt_irrefl,if_false]
theorem ZEL (l:List (Zu)) (k:Int) (hs:sm (.sl (XJ)) l) (h0:0≤k) (h1:k+((cnt (.sl (XJ)) l:Nat):Int)≤4611686018427387904):ZEs (mkL (mkA mt (XJ)) (cnt (XJ)) l k) k=some (k+((cnt (.sl (XJ)) l:Nat):Int)):=by
 unfold ZEs
 have hl:l.length≤1048576:=by have:=hs.1;omega
 refine ZFy (f:=mkA mt (XJ)) (c:=cnt (XJ)) (step:=fun v=>ZEm (mkL (mkA mt (XJ)) (cnt (XJ)) l k) v.1 v.2.1) (fun j m x hj hx hxm hm0 hm1 hj2=>?_) (fun m=>?_) hl h0 h1
 ·have hsx:=hs.2 x hxm
  have hc:((cnt (XJ) x:Nat):Int)=0+1+1:=by simp only [Zav,Zb6,Zau,Zaw,ZcT];omega
  have f0:Zu.Early (mkA mt (XJ) x m)=m:=rfl
  have f1:Zu.Late (mkA mt (XJ) x m)=m+1:=rfl
  simp (disch:=omega) only [ZEm,if_pos hj,Zn,hx,Bq,YZ,eq_self,if_true,if_false,beq_self_eq_true,f0,f1]
  refine ZFs ?_ ?_
  ·have hc:=hc;omega
  ·omega
 ·simp only [ZEm,Int.lt_irrefl,if_false]
theorem ZFn (a:Zk) (k:Int) (hs:sm (Xd) a) (h0:0≤k) (h1:k+((ZFD (Xd) a:Nat):Int)≤4611686018427387904):ZEt (mkT mt (Xd) a k) k=some (k+((ZFD (Xd) a:Nat):Int)):=by
 unfold ZEt
 have hc:((ZFD (Xd) a:Nat):Int)=0+(((cnt (.sl (.bool)) a.1):Nat):Int)+(((cnt (.sl (XJ)) a.2.1):Nat):Int)+(((cnt (.sl (XJ)) a.2.2.1):Nat):Int):=by simp only [ZFD];omega
 have f0:Zk.Reached (mkT mt (Xd) a k)=mkL (mkA mt (.bool)) (cnt (.bool)) a.1 (k):=by rfl
 have n0:¬(k+(((cnt (.sl (.bool)) a.1):Nat):Int))<0:=by omega
 have e0:=ZFq a.1 (k) hs.1 (by omega) (by omega)
 have f1:Zk.ZB (mkT mt (Xd) a k)=mkL (mkA mt (XJ)) (cnt (XJ)) a.2.1 (k+(((cnt (.sl (.bool)) a.1):Nat):Int)):=by rfl
 have n1:¬(k+(((cnt (.sl (.bool)) a.1):Nat):Int)+(((cnt (.sl (XJ)) a.2.1):Nat):Int))<0:=by omega
 have e1:=ZEL a.2.1 (k+(((cnt (.sl (.bool)) a.1):Nat):Int)) hs.2.1 (by omega) (by omega)
 have f2:Zk.X7 (mkT mt (Xd) a k)=mkL (mkA mt (XJ)) (cnt (XJ)) a.2.2.1 (k+(((cnt (.sl (.bool)) a.1):Nat):Int)+(((cnt (.sl (XJ)) a.2.1):Nat):Int)):=by rfl
 have n2:¬(k+(((cnt (.sl (.bool)) a.1):Nat):Int)+(((cnt (.sl (XJ)) a.2.1):Nat):Int)+(((cnt (.sl (XJ)) a.2.2.1):Nat):Int))<0:=by omega
 have e2:=ZEL a.2.2.1 (k+(((cnt (.sl (.bool)) a.1):Nat):Int)+(((cnt (.sl (XJ)) a.2.1):Nat):Int)) hs.2.2.1 (by omega) (by omega)
 simp only [Bq,if_false,f0,n0,e0,f1,n1,e1,f2,n2,e2]
 refine congrArg some ?_
 omega
theorem ZFm (l:List (Int)) (k:Int) (hs:sm (.sl (.int .i64)) l) (h0:0≤k) (h1:k+((cnt (.sl (.int .i64)) l:Nat):Int)≤4611686018427387904):Zcq (mkL (mkA mt (.int .i64)) (cnt (.int .i64)) l k) k=some (k+((cnt (.sl (.int .i64)) l:Nat):Int)):=by
 unfold Zcq
 have hl:l.length≤1048576:=by have:=hs.1;omega
 refine ZFy (f:=mkA mt (.int .i64)) (c:=cnt (.int .i64)) (step:=fun v=>Zad (mkL (mkA mt (.int .i64)) (cnt (.int .i64)) l k) v.1 v.2.1) (fun j m x hj hx hxm hm0 hm1 hj2=>?_) (fun m=>?_) hl h0 h1
 ·have hsx:=hs.2 x hxm
  have hc:((cnt (.int .i64) x:Nat):Int)=0+1:=by rfl
  have f0:mkA mt (.int .i64) x m=m:=rfl
  simp (disch:=omega) only [Zad,if_pos hj,Zn,hx,Bq,YZ,eq_self,if_true,if_false,beq_self_eq_true,f0]
  refine ZFs ?_ ?_
  ·have hc:=hc;omega
  ·omega
 ·simp only [Zad,Int.lt_irrefl,if_false]
/-
  Plain laws: a timing is updated: program and reference alike.
-/
theorem ZFN (l:List Int) (x:Int) (hl:l.length≤1048576):ZEw l x=some (decide (x∈l)):=by
 have hL:Len l:=by unfold Len;omega
 unfold ZEw
 rw [JC (l:=l) hL (p:=fun y=>decide (y=x)) (out:=fun i=>decide (0≤i)) (step:=fun v=>ZEj l x v.1)
  (fun k y hy=>by
   have hk:=(List.getElem?_eq_some_iff.1 hy).1
   simp only [ZEj,show (k:Int)<(l.length:Int) from by omega,if_true,Zn,hy,Bq,decide_eq_true_eq]
   split
   ·rw [show decide (0≤(k:Int))=true from by simp]
   ·rfl)
  (by simp only [ZEj,Int.lt_irrefl,if_false];rfl)]
 congr 1
 rw [Bool.eq_iff_iff,decide_eq_true_eq,decide_eq_true_eq,Zay,List.any_eq_true]
 simp
def Fed (b:Zd) (live:List Bool) (ch:List Bool) (node:Int) (m:Nat):Prop:=∃ (k:Nat) (x:Zq),k<m∧(Zx b)[k]?=some x∧live[k]?=some true∧Zq.To x=node∧atI ch (Zq.From x)=some true
noncomputable def due (b:Zd) (live:List Bool) (dirty:List Int) (ch:List Bool) (node:Int):Bool:=tr (node∈dirty∨Fed b live ch node (Zx b).length)
theorem ZFY {b:Zd} {live ch:List Bool} {node:Int} {k:Nat} {x:Zq} (hx:(Zx b)[k]?=some x):Fed b live ch node (k+1)↔Fed b live ch node k∨(live[k]?=some true∧Zq.To x=node∧atI ch (Zq.From x)=some true):=by
 constructor
 ·rintro ⟨j,y,hj,hy,h1,h2,h3⟩
  by_cases e:j=k
  ·subst e
   rw [hx] at hy
   injection hy with hy
   subst hy
   exact .inr ⟨h1,h2,h3⟩
  ·exact .inl ⟨j,y,by omega,hy,h1,h2,h3⟩
 ·rintro (⟨j,y,hj,hy,h1,h2,h3⟩ | ⟨h1,h2,h3⟩)
  ·exact ⟨j,y,by omega,hy,h1,h2,h3⟩
  ·exact ⟨k,x,by omega,hx,h1,h2,h3⟩
theorem ZFK {b:Zd} {live:List Bool} {node y:Int}:y∈toL b live node↔∃ (k:Nat) (x:Zq),(Zx b)[k]?=some x∧y=(k:Int)∧live[k]?=some true∧Zq.To x=node:=by
 unfold toL
 rw [Qw]
 constructor
 ·rintro ⟨k,x,hx,hy⟩
  rw [Nat.zero_add] at hy
  unfold toF at hy
  split at hy
  ·rename_i q
   split at hy
   ·rename_i q2
    refine ⟨k,x,hx,List.mem_singleton.1 hy,?_,q2⟩
    cases e:live[k]? with
    | none=>rw [e] at q;cases q
    | some lv=>rw [e] at q;rw [show lv=true from q]
   ·cases hy
  ·cases hy
 ·rintro ⟨k,x,hx,rfl,h1,h2⟩
  refine ⟨k,x,hx,?_⟩
  rw [Nat.zero_add]
  unfold toF
  rw [h1,Option.getD_some,if_pos rfl,if_pos h2]
  exact List.mem_singleton.2 rfl
theorem ZGd {b:Zd} (h:Qm b) (live:List Bool) (node:Int):(toL b live node).length≤6000:=by
 have:=Zt7 h live node (Zx b).length
 rw [List.take_length] at this
 exact this
theorem ZF9 {b:Zd} (h:Qm b) {ch:List Bool} (hch:ch.length=ZeJ b) {x:Zq} (hx:x∈Zx b):∃ c,atI ch (Zq.From x)=some c:=by
 have:=(Zf3 h hx).1
 have e:=nN b
 obtain ⟨c,hc,_⟩:=Zh6 (l:=ch) this.1 (by omega)
 exact ⟨c,hc⟩
theorem ZF2 {b:Zd} (h:Qm b) {v:ZE} (hv:VOk b v) {live:List Bool} {ch:List Bool} (hch:ch.length=ZeJ b) (node:Int) :
  ZD5 (toL b live node) (ch,((v,live,()):Yp),())=some (tr (Fed b live ch node (Zx b).length)):=by
 have hl:=ZGd h live node
 have el:ZE.links (Yp.view ((v,live,()):Yp))=Zx b:=hv.links
 rw [ZEh (by unfold Len;omega) (fun y=>((atI (Zx b) y).bind fun x=>atI ch (Zq.From x)).getD false) (fun y hy=>by
  obtain ⟨k,x,hx,rfl,_,_⟩:=ZFK.1 hy
  obtain ⟨c,hc⟩:=ZF9 h hch (List.mem_of_getElem? hx)
  show ZEf (k:Int) ch ((v,live,()):Yp)=_
  unfold ZEf
  rw [el,Zn,hx,Bq,Bq,hc]
  rfl)]
 congr 1
 rw [Bool.eq_iff_iff,List.any_eq_true,Xx]
 constructor
 ·rintro ⟨y,hy,hp⟩
  obtain ⟨k,x,hx,rfl,h1,h2⟩:=ZFK.1 hy
  rw [Zn,hx,Bq] at hp
  obtain ⟨c,hc⟩:=ZF9 h hch (List.mem_of_getElem? hx)
  rw [hc,Option.getD_some] at hp
  subst hp
  exact ⟨k,x,(List.getElem?_eq_some_iff.1 hx).1,hx,h1,h2,hc⟩
 ·rintro ⟨k,x,hk,hx,h1,h2,h3⟩
  refine ⟨(k:Int),ZFK.2 ⟨k,x,hx,rfl,h1,h2⟩,?_⟩
  rw [Zn,hx,Bq,h3]
  rfl
theorem ZFp {α σ:Type} {f:Nat→α→σ→σ} {I:σ→Prop}:∀ (l:List α) (m:Nat) (s:σ),I s→(∀ k x s,l[k]?=some x→I s→I (f (m+k) x s))→I (foldI f m l s)
 | [],_,_,h,_=>h
 | x::l,m,s,h,hf=>by
  simp only [foldI]
  have h0:=hf 0 x s rfl h
  rw [Nat.add_zero] at h0
  refine ZFp l (m+1) _ h0 fun k y s hy hs=>?_
  rw [show m+1+k=m+(k+1) by omega]
  exact hf (k+1) y s (by rw [List.getElem?_cons_succ];exact hy) hs
def StB (st:NSt):Prop:=∀ q,st=some q→ZBi q.2
theorem ZGg:ZBi Znj:=by
 refine ⟨⟨?_,?_⟩,?_,?_⟩<;>decide
theorem ZGa {s:Zu} (h:ZeV s):ZBi s:=by
 obtain ⟨z1,z2,z3⟩:=h
 exact ⟨⟨by omega,by omega⟩,by omega,by omega⟩
theorem ZF5 {a s:Zu} (ha:ZBi a) (hs:ZBi s):ZBi (hul a s):=by
 obtain ⟨⟨a1,a2⟩,a3,a4⟩:=ha
 obtain ⟨⟨b1,b2⟩,b3,b4⟩:=hs
 unfold hul
 refine ⟨⟨?_,?_⟩,?_,?_⟩
 ·show -1000000≤Min.min _ _;omega
 ·show Min.min _ _≤1000000;omega
 ·show -1000000≤Max.max _ _;omega
 ·show Max.max _ _≤1000000;omega
theorem ZF7 {b:Zd} (h:Qm b) {v:ZE} (hv:VOk b v) {c:Zv} (hc:JL c) {t:Zk} (ht:ZsL (ZeJ b) t) {k:Nat} {x:Zq} (hx:(Zx b)[k]?=some x) {st:NSt} (hs:StB st):StB (ZrX b c t x st):=by
 obtain ⟨r,a,s,hr,ha,hs',hsb⟩:=Zto h ht (List.mem_of_getElem? hx)
 obtain ⟨d,o,e1,e2,_,_,o1,o2⟩:=spans_eq h hv hc hx hsb.1 hsb.2
 have hsp:spn b c x s=(d,o):=by unfold spn;rw [e2];rfl
 have hu:ZrX b c t x st=if r=true then ZuO st (ZpV a d) o else st:=by
  unfold ZrX
  rw [hr,ha,hs']
  simp only [Option.getD_some,hsp]
 rw [hu]
 split
 ·intro q hq
  cases st with
  | none =>
   injection hq with hq
   rw [←hq]
   exact ⟨o1,o2⟩
  | some p =>
   injection hq with hq
   rw [←hq]
   exact ZF5 (hs p rfl) ⟨o1,o2⟩
 ·exact hs
theorem ZFw {b:Zd} {c:Zv} {br:List Int} {l:List Zj} (hA:Zxb b c br l) {v:ZE} (hv:VOk b v) {t:Zk} (ht:ZsL (ZeJ b) t) (live:List Bool) (node:Int):StB (Zj5 b c live l t node):=by
 unfold Zj5
 refine ZFp _ _ _ ?_ (fun k x st hx hs=>?_)
 ·unfold Zg1
  refine ZFp _ _ _ (fun q hq=>by cases hq) (fun k x st hx hs=>?_)
  show StB (if Zj.Node x=node then _ else st)
  split
  ·intro q hq
   injection hq with hq
   rw [←hq]
   exact ZGa (hA.src k x hx).2.2.2
  ·exact hs
 ·show StB (if (live[0+k]?).getD false=true then _ else st)
  split
  ·split
   ·exact ZF7 hA.blk hv hA.cor ht hx hs
   ·exact hs
  ·exact hs
theorem ZFF {n:Nat} {t:Zk} (ht:ZsL n t) (k:Nat) {r:Bool×Zj} (hr:ZBi (Zj.X7 r.2)):ZsL n (ZBw t k r):=by
 refine ⟨?_,?_,?_,fun s hs=>?_⟩
 ·show (List.set (Zk.Reached t) k r.1).length=n
  rw [List.length_set];exact ht.lr
 ·show (List.set (Zk.ZB t) k (Zj.ZB r.2)).length=n
  rw [List.length_set];exact ht.la
 ·show (List.set (Zk.X7 t) k (Zj.X7 r.2)).length=n
  rw [List.length_set];exact ht.ls
 ·rcases List.mem_or_eq_of_mem_set (show s∈List.set (Zk.X7 t) k (Zj.X7 r.2) from hs) with q | q
  ·exact ht.sl s q
  ·rw [q];exact hr
theorem ZFM {st:NSt} (h:StB st) (node:Int):ZBi (Zj.X7 (ZrQ node st).2):=by
 cases st with
 | none=>exact ZGg
 | some q=>exact h q rfl
/-
  Plain laws: a timing is updated, node by node: program and reference alike.
-/
theorem ZGf {live:List Bool} {L:List Zq} {n:Nat} {out:List Int} {v:Nat} (h:nxt live L n out=some v):v<n∧(v:Int) ∉ out∧Zix live L out (v:Int)=0:=by
 unfold nxt at h
 rw [List.find?_range_eq_some] at h
 obtain ⟨hp,hv,_⟩:=h
 rw [Bool.and_eq_true,decide_eq_true_eq,decide_eq_true_eq] at hp
 exact ⟨List.mem_range.1 hv,hp⟩
theorem ZFT (live:List Bool) (L:List Zq) (n:Nat):∀ (m:Nat) (out:List Int),(∀ u∈out,0≤u∧u<(n:Int))→(Zvt live L n m out).1.length≤out.length+m∧∀ u∈(Zvt live L n m out).1,0≤u∧u<(n:Int)
 | 0,out,h=>⟨by show out.length≤_;omega,h⟩
 | m+1,out,h=>by
  unfold Zvt
  cases e:nxt live L n out with
  | none=>exact ⟨by simp,fun u hu=>by cases hu⟩
  | some v =>
   have hv:=(ZGf e).1
   obtain ⟨h1,h2⟩:=ZFT live L n m (out++[(v:Int)]) (fun u hu=>by
    rcases List.mem_append.1 hu with q | q
    ·exact h u q
    ·rw [List.mem_singleton.1 q];omega)
   refine ⟨?_,h2⟩
   rw [List.length_append] at h1
   simp only [List.length_cons,List.length_nil] at h1
   show (Zvt live L n m (out++[(v:Int)])).1.length≤_
   omega
theorem ZF4 (b:Zd) (br:List Int):(ZqN b br).1.length≤ZeJ b∧∀ u∈(ZqN b br).1,0≤u∧u<(ZeJ b:Int):=by
 have:=ZFT (Zje b br) (Zx b) (ZeJ b) (ZeJ b) [] (fun u hu=>by cases hu)
 rw [List.length_nil,Nat.zero_add] at this
 exact this
noncomputable def newV (b:Zd) (c:Zv) (live:List Bool) (l:List Zj) (t:Zk) (node:Int):Bool×Zj:=ZrQ node (Zj5 b c live l t node)
noncomputable def ZFQ (r:Bool×Zj):Bool:=r.1&&!tr (Zd1 (Zj.ZB r.2))
noncomputable def ZFO (b:Zd) (c:Zv) (live:List Bool) (l:List Zj) (dirty:List Int):List Int→List Int→Zk→List Bool→Bool×List Int×Zk
 | [],d,t,_=>(true,d,t)
 | node::r,d,t,ch=>match due b live dirty ch node with
  | true=>match ZFQ (newV b c live l t node) with
   | true=>(false,[],t)
   | false=>ZFO b c live l dirty r (d++[node]) (ZBw t node.toNat (newV b c live l t node)) (List.set ch node.toNat (Zlo b c live l t node.toNat))
  | false=>ZFO b c live l dirty r d t ch
theorem ZFG {b:Zd} {c:Zv} {live:List Bool} {l:List Zj} {t:Zk} {k:Nat} {x:Bool} {a s:Zu} (hx:atI (Zk.Reached t) (k:Int)=some x) (ha:atI (Zk.ZB t) (k:Int)=some a) (hs:atI (Zk.X7 t) (k:Int)=some s):Zlo b c live l t k=ZvL x a s (newV b c live l t (k:Int)):=by
 unfold Zlo newV
 rw [hx,ha,hs]
 rfl
theorem ZFA (b:Zd) (c:Zv) (live:List Bool) (l:List Zj) (dirty:List Int) {n:Nat} {P:Zk→Prop} (hP:∀ (t:Zk) (node:Int),P t→P (ZBw t node.toNat (newV b c live l t node))) :
  ∀ (r d:List Int) (t:Zk) (ch:List Bool),P t→(ZFO b c live l dirty r d t ch).2.1.length≤d.length+r.length∧P (ZFO b c live l dirty r d t ch).2.2
 | [],d,t,ch,h=>⟨by show d.length≤_;simp,h⟩
 | node::r,d,t,ch,h=>by
  unfold ZFO
  split
  ·split
   ·exact ⟨by simp,h⟩
   ·have:=ZFA b c live l dirty (n:=n) hP r (d++[node]) _ (List.set ch node.toNat (Zlo b c live l t node.toNat)) (hP t node h)
    rw [List.length_append] at this
    simp only [List.length_cons,List.length_nil] at this ⊢
    exact ⟨by omega,this.2⟩
  ·have:=ZFA b c live l dirty (n:=n) hP r d t ch h
   simp only [List.length_cons]
   exact ⟨by omega,this.2⟩
def noT:Zk:=([],[],[],())
section
variable {b:Zd} {c:Zv} {br:List Int} {l:List Zj} {v:ZE}
theorem ZF6 (hA:Zxb b c br l) {ch:List Bool} (hch:ch.length=ZeJ b) {node:Int} {dirty:List Int}
  {v0:List Int} {v1:Int} {c0:List Bool} {c1 c2:List Zu} {l0:List Bool} {l1 l2:List Zu} {R:(List Int×Int×List Bool×List Zu×List Zu×List Bool×List Zu×List Zu×List Bool×Unit) ⊕ (Zk×List Int×Bool)}
  (hR:ZEg b c l (Zx b) (Zje b br) v0 v1 c0 c1 c2 l0 l1 l2 ch node (due b (Zje b br) dirty ch node) ((Zx b).length:Int)=some (.inr R)) :
  Zm (fun u=>ZEg b c l (Zx b) (Zje b br) v0 v1 c0 c1 c2 l0 l1 l2 ch node u.1 u.2.1) (decide (node∈dirty),(0:Int),())=some R:=by
 have h:=hA.blk
 have h6:=Qv h
 have hll:(Zje b br).length=(Zx b).length:=ZkU _ _
 refine ZY (Zx b).length (fun k u=>u=(tr (node∈dirty∨Fed b (Zje b br) ch node k),(k:Int),())) _ ?_ ?_ ?_
 ·have e:tr (node∈dirty∨Fed b (Zje b br) ch node 0)=decide (node∈dirty):=ZnX (by
   rw [decide_eq_true_eq]
   constructor
   ·exact .inl
   ·rintro (q | ⟨k,_,hk,_⟩)
    ·exact q
    ·omega)
  show _=(tr _,(0:Int),())
  rw [e]
 ·rintro k _ hk rfl
  have hx:(Zx b)[k]?=some ((Zx b)[k]'hk):=List.getElem?_eq_getElem _
  have hlv:(Zje b br)[k]?=some ((Zje b br)[k]'(by omega)):=List.getElem?_eq_getElem _
  generalize (Zx b)[k]'hk=x at hx
  generalize (Zje b br)[k]'(by omega)=lv at hlv
  obtain ⟨cx,hcx⟩:=ZF9 h hch (List.mem_of_getElem? hx)
  refine .inl ⟨(tr (node∈dirty∨Fed b (Zje b br) ch node (k+1)),((k+1:Nat):Int),()),?_,rfl⟩
  show ZEg b c l (Zx b) (Zje b br) v0 v1 c0 c1 c2 l0 l1 l2 ch node (tr (node∈dirty∨Fed b (Zje b br) ch node k)) (k:Int)=_
  unfold ZEg
  rw [if_pos (by omega),Xo (by omega)]
  have hf:=ZFY (live:=Zje b br) (ch:=ch) (node:=node) hx
  rw [hlv,hcx] at hf
  by_cases q:node∈dirty∨Fed b (Zje b br) ch node k
  ·rw [if_pos (Yc q),Yc (q.imp id fun z=>hf.2 (.inl z))]
  ·rw [if_neg (fun z=>q ((Xx _).1 z)),Zn,hlv,Bq]
   have hd:node ∉ dirty:=fun z=>q (.inl z)
   have hk0:¬Fed b (Zje b br) ch node k:=fun z=>q (.inr z)
   by_cases q1:lv=true
   ·rw [if_pos q1,Zn,hx,Bq]
    by_cases q2:Zq.To x=node
    ·rw [if_pos q2,hcx,Bq]
     have e:tr (node∈dirty∨Fed b (Zje b br) ch node (k+1))=cx:=ZnX (by
      rw [hf]
      constructor
      ·exact fun z=>.inr (.inr ⟨by rw [q1],q2,by rw [z]⟩)
      ·rintro (z | z | ⟨_,_,z⟩)
       ·exact absurd z hd
       ·exact absurd z hk0
       ·injection z)
     rw [e]
    ·rw [if_neg q2,Z7 (fun z=>by
      rcases z with z | z
      ·exact hd z
      ·rcases hf.1 z with z | z
       ·exact hk0 z
       ·exact q2 z.2.1)]
   ·rw [if_neg q1,Z7 (fun z=>by
     rcases z with z | z
     ·exact hd z
     ·rcases hf.1 z with z | z
      ·exact hk0 z
      ·have:=z.1;injection this with this;exact q1 this)]
 ·rintro _ rfl
  exact hR
theorem ZF1 (hA:Zxb b c br l) (hv:VOk b v) {ch:List Bool} (hch:ch.length=ZeJ b) (node:Int) {dirty:List Int} (hd:dirty.length≤1048576) {ρ:Type} (T F:Option ρ) :
  ((ZD8 dirty node).bind fun x=>if x=true then T else (Zck ((v,Zje b br,()):Yp) node).bind fun to0=>(ZD5 to0 (ch,((v,Zje b br,()):Yp),())).bind fun y=>if y=true then T else F)=if due b (Zje b br) dirty ch node=true then T else F:=by
 have h:=hA.blk
 have hll:(Zje b br).length=(Zx b).length:=ZkU _ _
 rw [ZEv (by unfold Len;omega),Bq,ZqC h hv hll,Bq,ZF2 h hv hch,Bq]
 unfold due
 by_cases q:node∈dirty
 ·rw [if_pos (decide_eq_true q),if_pos (Yc (.inl q))]
 ·rw [if_neg (by rw [decide_eq_true_eq];exact q)]
  by_cases q2:Fed b (Zje b br) ch node (Zx b).length
  ·rw [if_pos (Yc q2),if_pos (Yc (.inr q2))]
  ·rw [if_neg (fun z=>q2 ((Xx _).1 z)),if_neg (fun z=>by rcases (Xx _).1 z with z | z;exact q z;exact q2 z)]
theorem ZGc {l0 ch:List Bool} {l1 l2:List Zu} {node:Int} {x cc:Bool} {a s:Zu} (hx:atI l0 node=some x) (ha:atI l1 node=some a) (hs:atI l2 node=some s) (hc:atI ch node=some cc) (r:Bool×Zj) {ρ:Type} (F:Bool→ρ) :
  ((atI l0 node).bind fun x1=>if (r.1 == x1)=true then (atI l1 node).bind fun x2=>if eqS (Zj.ZB r.2) x2=true then (atI l2 node).bind fun x3=>(atI ch node).bind fun _=>some (F (!(eqS (Zj.X7 r.2) x3))) else (atI ch node).bind fun _=>(atI l2 node).bind fun _=>some (F true)
   else (atI ch node).bind fun _=>(atI l1 node).bind fun _=>(atI l2 node).bind fun _=>some (F true))=some (F (ZvL x a s r)):=by
 rw [hx,ha,hs,hc]
 simp only [Bq]
 unfold ZvL
 rw [show (r.1 == x)=(x == r.1) from Bool.beq_comm,Zrg _ a,Zrg _ s]
 split
 ·split
  ·rfl
  ·rfl
 ·rfl
theorem ZFU {t:Zk} {n k:Nat} {ch:List Bool} (ht:ZsL n t) (hch:ch.length=n) (hk:k<n):∃ cc,atI ch (k:Int)=some cc:=⟨_,by rw [Zn];exact List.getElem?_eq_getElem (by omega)⟩
theorem ZFz (hA:Zxb b c br l) (hv:VOk b v) (hl:l.length≤1048576) {dirty ord:List Int} (hd:dirty.length≤1048576) {d:List Int} {t:Zk} {ch:List Bool} (ht:ZsL (ZeJ b) t) (hch:ch.length=ZeJ b) {k:Nat} {node:Int} (hk:ord[k]?=some node) (hk2:k≤1048576) (hdl:d.length≤1048576) (hn:0≤node∧node<(ZeJ b:Int)) :
  ZEa ((v,Zje b br,()):Yp) c l dirty ord d (k:Int) (Zk.Reached t) (Zk.ZB t) (Zk.X7 t) ch=some (match due b (Zje b br) dirty ch node with
   | true=>match ZFQ (newV b c (Zje b br) l t node) with
    | true=>.inr ([],false,t)
    | false=>.inl (d++[node],((k+1:Nat):Int),Zk.Reached (ZBw t node.toNat (newV b c (Zje b br) l t node)),Zk.ZB (ZBw t node.toNat (newV b c (Zje b br) l t node)),Zk.X7 (ZBw t node.toNat (newV b c (Zje b br) l t node)),List.set ch node.toNat (Zlo b c (Zje b br) l t node.toNat),())
   | false=>.inl (d,((k+1:Nat):Int),Zk.Reached t,Zk.ZB t,Zk.X7 t,ch,())):=by
 have h:=hA.blk
 have hn1:=Zj1 h
 have hll:(Zje b br).length=(Zx b).length:=ZkU _ _
 have hlen:Len l:=by unfold Len;omega
 have hkl:=(List.getElem?_eq_some_iff.1 hk).1
 obtain ⟨j,rfl⟩:∃ j:Nat,node=(j:Int):=⟨node.toNat,by omega⟩
 have hj:j<ZeJ b:=by omega
 obtain ⟨x,a,s,hx,ha,hs⟩:=Zt6 ht hj
 obtain ⟨cc,hcc⟩:=ZFU ht hch hj
 have hw:=ZFG (b:=b) (c:=c) (live:=Zje b br) (l:=l) hx ha hs
 have hnode:=ZpB h hv hA.cor hll ht hlen (ZxB hA.src) (j:Int)
 rw [show ZrQ (j:Int) (Zj5 b c (Zje b br) l t (j:Int))=newV b c (Zje b br) l t (j:Int) from rfl] at hnode
 unfold ZEa
 rw [if_pos (by omega),Zn,hk,Bq,ZF1 hA hv hch (j:Int) hd,Xo hk2,Zh (by simp only [List.length_cons,List.length_nil];omega)]
 cases hdue:due b (Zje b br) dirty ch (j:Int) with
 | false=>rw [if_neg (by decide)]
 | true =>
  rw [if_pos rfl]
  show (VN _ c l t (j:Int)).bind _=_
  rw [hnode,Bq,Int.toNat_natCast,hw]
  generalize newV b c (Zje b br) l t (j:Int)=r
  have htail:=ZGc hx ha hs hcc r (F:=fun z=>(Sum.inl (d++[(j:Int)],((k+1:Nat):Int),Zk.Reached (ZBw t j r),Zk.ZB (ZBw t j r),Zk.X7 (ZBw t j r),List.set ch j z,()):(List Int×Int×List Bool×List Zu×List Zu×List Bool×Unit) ⊕ (List Int×Bool×Zk)))
  by_cases q1:r.1=true
  ·rw [if_pos q1,show ZcU r.2.2.1=some (tr (Zd1 (Zj.ZB r.2))) from Zfu _,Bq]
   have hb:ZFQ r = !tr (Zd1 (Zj.ZB r.2)):=by
    unfold ZFQ
    rw [q1,Bool.true_and]
   rw [hb]
   by_cases q2:Zd1 (Zj.ZB r.2)
   ·rw [if_pos (Yc q2),Yc q2]
    exact htail
   ·rw [if_neg (fun z=>q2 ((Xx _).1 z)),Z7 q2]
    rfl
  ·rw [if_neg q1]
   have hb:ZFQ r=false:=by
    unfold ZFQ
    rw [Bool.not_eq_true] at q1
    rw [q1,Bool.false_and]
   rw [hb]
   exact htail
end
/-
  Plain laws: FnExactUpdateTiming's values: program and reference alike.
-/
section
variable {b:Zd} {c:Zv} {br:List Int} {l:List Zj} {v:ZE}
theorem ZFB (hA:Zxb b c br l) (hv:VOk b v) (hl:l.length≤1048576) {dirty:List Int} {TO:List Int×Int} (hd:dirty.length≤1048576) {d:List Int} {c0:List Bool} {c1 c2:List Zu} {t:Zk} {ch:List Bool} (ht:ZsL (ZeJ b) t) (hch:ch.length=ZeJ b) {k:Nat} {node:Int} (hk:TO.1[k]?=some node) (hk2:k≤1048576) (hdl:d.length≤1048576) (hn:0≤node∧node<(ZeJ b:Int)) :
  ZEd b c l dirty (Zx b) (Zje b br) TO d (k:Int) c0 c1 c2 (Zk.Reached t) (Zk.ZB t) (Zk.X7 t) ch=some (match due b (Zje b br) dirty ch node with
   | true=>match ZFQ (newV b c (Zje b br) l t node) with
    | true=>.inr (noT,[],false)
    | false=>.inl (d++[node],((k+1:Nat):Int),c0,c1,c2,Zk.Reached (ZBw t node.toNat (newV b c (Zje b br) l t node)),Zk.ZB (ZBw t node.toNat (newV b c (Zje b br) l t node)),Zk.X7 (ZBw t node.toNat (newV b c (Zje b br) l t node)),List.set ch node.toNat (Zlo b c (Zje b br) l t node.toNat),())
   | false=>.inl (d,((k+1:Nat):Int),c0,c1,c2,Zk.Reached t,Zk.ZB t,Zk.X7 t,ch,())):=by
 have h:=hA.blk
 have hn1:=Zj1 h
 have hll:(Zje b br).length=(Zx b).length:=ZkU _ _
 have hlen:Len l:=by unfold Len;omega
 have hkl:=(List.getElem?_eq_some_iff.1 hk).1
 obtain ⟨j,rfl⟩:∃ j:Nat,node=(j:Int):=⟨node.toNat,by omega⟩
 have hj:j<ZeJ b:=by omega
 obtain ⟨x,a,s,hx,ha,hs⟩:=Zt6 ht hj
 obtain ⟨cc,hcc⟩:=ZFU ht hch hj
 have hw:=ZFG (b:=b) (c:=c) (live:=Zje b br) (l:=l) hx ha hs
 have hnode:=Zp7 h hv hA.cor hll ht hlen (j:Int)
 have hset:=ZxK hx ha hs (j:Int) (Zj5 b c (Zje b br) l t (j:Int))
 rw [show ZrQ (j:Int) (Zj5 b c (Zje b br) l t (j:Int))=newV b c (Zje b br) l t (j:Int) from rfl] at hnode hset
 unfold ZEd
 rw [if_pos (by omega),Zn,hk,Bq,ZFN dirty (j:Int) hd,Bq]
 refine ZF6 hA hch ?_
 unfold ZEg
 rw [if_neg (Int.lt_irrefl _),Xo hk2]
 cases hdue:due b (Zje b br) dirty ch (j:Int) with
 | false=>rw [if_neg (by decide)]
 | true =>
  rw [if_pos rfl]
  show (ZdM b c (Zx b) (Zje b br) l t (j:Int)).bind _=_
  rw [hnode,Bq,Int.toNat_natCast,hw]
  generalize newV b c (Zje b br) l t (j:Int)=r at *
  have hput:∀ {ρ:Type} (F:Bool×Zk→ρ),((ZgA t (j:Int) r.1 r.2).bind fun z=>(atI ch (j:Int)).bind fun _=>Zy ((List.length d+List.length [(j:Int)])*(8:Nat)≤(140737488355328:Nat)) <| some (F z))=some (F (ZvL x a s r,ZBw t j r)):=fun F=>by
   rw [hset,Bq,hcc,Bq,Zh (by simp only [List.length_cons,List.length_nil];omega)]
  have hfin:=hput fun z=>(Sum.inr (Sum.inl (d++[(j:Int)],((k+1:Nat):Int),c0,c1,c2,Zk.Reached z.2,Zk.ZB z.2,Zk.X7 z.2,List.set ch j z.1,())):(Bool×Int×Unit) ⊕ ((List Int×Int×List Bool×List Zu×List Zu×List Bool×List Zu×List Zu×List Bool×Unit) ⊕ (Zk×List Int×Bool)))
  by_cases q1:r.1=true
  ·rw [if_pos q1,show Zc5 r.2.2.1=some (tr (Zd1 (Zj.ZB r.2))) from ZiH _,Bq]
   have hb:ZFQ r = !tr (Zd1 (Zj.ZB r.2)):=by
    unfold ZFQ
    rw [q1,Bool.true_and]
   rw [hb]
   by_cases q2:Zd1 (Zj.ZB r.2)
   ·rw [if_pos (Yc q2),Yc q2]
    exact hfin
   ·rw [if_neg (fun z=>q2 ((Xx _).1 z)),Z7 q2]
    rfl
  ·rw [if_neg q1]
   have hb:ZFQ r=false:=by
    unfold ZFQ
    rw [Bool.not_eq_true] at q1
    rw [q1,Bool.false_and]
   rw [hb]
   exact hfin
theorem ZFu (hA:Zxb b c br l) (hv:VOk b v) (hl:l.length≤1048576) {dirty:List Int} (hd:dirty.length≤1048576) {TO:List Int×Int} (hT:TO.1.length≤1000∧∀ u∈TO.1,0≤u∧u<(ZeJ b:Int)) {c0:List Bool} {c1 c2:List Zu} :
  ∀ (r:List Int) (k:Nat) (d:List Int) (t:Zk) (ch:List Bool),TO.1.drop k=r→k≤TO.1.length→d.length≤k→ZsL (ZeJ b) t→ch.length=ZeJ b→
   Zm (fun u=>ZEa ((v,Zje b br,()):Yp) c l dirty TO.1 u.1 u.2.1 u.2.2.1 u.2.2.2.1 u.2.2.2.2.1 u.2.2.2.2.2.1) (d,(k:Int),Zk.Reached t,Zk.ZB t,Zk.X7 t,ch,())=some ((ZFO b c (Zje b br) l dirty r d t ch).2.1,(ZFO b c (Zje b br) l dirty r d t ch).1,(ZFO b c (Zje b br) l dirty r d t ch).2.2)∧
   Zm (fun u=>ZEd b c l dirty (Zx b) (Zje b br) TO u.1 u.2.1 u.2.2.1 u.2.2.2.1 u.2.2.2.2.1 u.2.2.2.2.2.1 u.2.2.2.2.2.2.1 u.2.2.2.2.2.2.2.1 u.2.2.2.2.2.2.2.2.1) (d,(k:Int),c0,c1,c2,Zk.Reached t,Zk.ZB t,Zk.X7 t,ch,())=some (match (ZFO b c (Zje b br) l dirty r d t ch).1 with
    | true=>((ZFO b c (Zje b br) l dirty r d t ch).2.2,(ZFO b c (Zje b br) l dirty r d t ch).2.1,true)
    | false=>(noT,[],false))
 | [],k,d,t,ch,hr,hk,hdk,ht,hch=>by
  have hke:k=TO.1.length:=by
   have:=congrArg List.length hr
   rw [List.length_drop,List.length_nil] at this
   omega
  subst hke
  constructor
  ·refine Xe ?_
   show ZEa ((v,Zje b br,()):Yp) c l dirty TO.1 d (TO.1.length:Int) (Zk.Reached t) (Zk.ZB t) (Zk.X7 t) ch=_
   unfold ZEa
   rw [if_neg (Int.lt_irrefl _)]
   rfl
  ·refine Xe ?_
   show ZEd b c l dirty (Zx b) (Zje b br) TO d (TO.1.length:Int) c0 c1 c2 (Zk.Reached t) (Zk.ZB t) (Zk.X7 t) ch=_
   unfold ZEd
   rw [if_neg (Int.lt_irrefl _)]
   rfl
 | node::r,k,d,t,ch,hr,hk,hdk,ht,hch=>by
  have hkl:k<TO.1.length:=by
   have:=congrArg List.length hr
   rw [List.length_drop,List.length_cons] at this
   omega
  have hnode:TO.1[k]?=some node:=by
   have:=congrArg (fun z=>z[0]?) hr
   simp only [List.getElem?_drop,Nat.add_zero,List.getElem?_cons_zero] at this
   exact this
  have hr':TO.1.drop (k+1)=r:=by
   rw [←List.tail_drop,hr]
   rfl
  have hin:=hT.2 node (List.mem_of_getElem? hnode)
  have h1:=ZFz hA hv hl hd (ord:=TO.1) ht hch hnode (by omega) (d:=d) (by omega) hin
  have h2:=ZFB hA hv hl hd (TO:=TO) (c0:=c0) (c1:=c1) (c2:=c2) ht hch hnode (by omega) (d:=d) (by omega) hin
  unfold ZFO
  cases hdue:due b (Zje b br) dirty ch node with
  | false =>
   rw [hdue] at h1 h2
   have ih:=ZFu hA hv hl hd hT (c0:=c0) (c1:=c1) (c2:=c2) r (k+1) d t ch hr' hkl (by omega) ht hch
   exact ⟨(Xh h1).trans ih.1,(Xh h2).trans ih.2⟩
  | true =>
   rw [hdue] at h1 h2
   cases hbad:ZFQ (newV b c (Zje b br) l t node) with
   | true =>
    rw [hbad] at h1 h2
    exact ⟨Xe h1,Xe h2⟩
   | false =>
    rw [hbad] at h1 h2
    have ih:=ZFu hA hv hl hd hT (c0:=c0) (c1:=c1) (c2:=c2) r (k+1) (d++[node]) (ZBw t node.toNat (newV b c (Zje b br) l t node)) (List.set ch node.toNat (Zlo b c (Zje b br) l t node.toNat)) hr' hkl (by rw [List.length_append];simp only [List.length_cons,List.length_nil];omega)
     (ZFF ht _ (ZFM (ZFw hA hv ht _ _) _)) (by rw [List.length_set];exact hch)
    exact ⟨(Xh h1).trans ih.1,(Xh h2).trans ih.2⟩
end
theorem ZFX {t:Zk} {n:Nat} (ht:ZsL n t) (hn:n≤1048576):ZEo t=some t:=by
 have h1:=ht.lr
 have h2:=ht.la
 have h3:=ht.ls
 unfold ZEo ZEn ZEc
 rw [Zh (by rw [List.length_nil];omega),Zh (by rw [List.length_nil];omega),Zh (by rw [List.length_nil];omega)]
 rfl
theorem ZFH {b:Zd} (h:Qm b) {v:ZE} (hv:VOk b v) {nd:List Int} (hnd:nd.length≤1048576):ZEk v nd=some (tr (Zoq (ZeJ b:Int) nd)):=by
 have hn:=Zj1 h
 unfold ZEk
 rw [ZrI h hv,Bq,YZ (by omega) (by omega)]
 exact ZqE nd _ hnd
theorem ZFJ {b:Zd} (h:Qm b) {nd:List Int} (hnd:nd.length≤1048576):ZEz b nd=some (tr (Zoq (ZeJ b:Int) nd)):=by
 have hn:=Zj1 h
 unfold ZEz
 rw [Ze5 h,Bq,Zk8 nd _ hnd (by omega)]
 rfl
theorem ZFV (b:Zd) (c:Zv) (br:List Int) (l:List Zj) (t:Zk) (dirty:List Int) (hb:sm Yt b) (hc:sm X3 c) (hbr:br.length≤1048576) (hl:l.length≤1048576) (hd:dirty.length≤1048576) :
  ∃ r n,ZEp b c br l t dirty=some r∧ZEq b c br l t dirty=some r∧r.2.1.length≤1048576∧ZsL n r.1∧n≤1048576:=by
 unfold ZEp ZEq
 have hnil:ZsL 0 noT:=⟨rfl,rfl,rfl,fun s hs=>by cases hs⟩
 rcases Zw0 b c br l t hb hc hbr hl with ⟨code,hne,e1,e2⟩ | ⟨v,hA,hT,hv,e1,e2⟩
 ·rw [e1,e2,Bq,Bq,if_neg hne,if_neg hne]
  exact ⟨_,0,rfl,rfl,by simp,hnil,by omega⟩
 ·have h:=hA.blk
  have hn:=Zj1 h
  rw [e1,e2,Bq,if_pos rfl,Bq,show ZEk (Yp.view ((v,Zje b br,()):Yp)) dirty=_ from ZFH h hv hd,Bq,Bq,if_pos rfl,ZFJ h hd,Bq]
  by_cases hN:Zoq (ZeJ b:Int) dirty
  ·have htb:=ZDW hT
   have hO:=ZF4 b br
   rw [if_pos (Yc hN),if_pos (Yc hN),ZFX htb (by omega),Bq]
   unfold ZEu ZEI
   rw [show YM (Yp.view ((v,Zje b br,()):Yp))=some (ZeJ b:Int) from ZrI h hv,Bq,Zh (by omega),Zh (by omega),Zh (by omega),Zh (by omega),ZdX h,Bq,ZhQ _ _ (Qv h) hbr,Bq,ZwV h hbr hA.ris,Bq,ZxD htb (by omega),Bq,Ze5 h,Bq,Zh (by omega),Zh (by omega),Zh (by omega),Zh (by omega),if_pos hA.ord]
   obtain ⟨w1,w2⟩:=ZFu hA hv hl hd (TO:=((ZqN b br).1,0)) ⟨by show (ZqN b br).1.length≤1000;omega,hO.2⟩ (c0:=[]) (c1:=[]) (c2:=[]) (ZqN b br).1 0 [] t (List.replicate (ZeJ b) false) rfl (Nat.zero_le _) (Nat.le_refl _) htb (List.length_replicate)
   rw [Int.toNat_natCast]
   obtain ⟨u1,u2⟩:=ZFA b c (Zje b br) l dirty (n:=ZeJ b) (P:=ZsL (ZeJ b)) (fun t node ht=>ZFF ht _ (ZFM (ZFw hA hv ht _ _) _)) (ZqN b br).1 [] t (List.replicate (ZeJ b) false) htb
   generalize ZFO b c (Zje b br) l dirty (ZqN b br).1 [] t (List.replicate (ZeJ b) false)=R at *
   rw [show (Zm (fun v_1=>ZEa ((v,Zje b br,()):Yp) c l dirty (ZqN b br).1 v_1.1 v_1.2.1 v_1.2.2.1 v_1.2.2.2.1 v_1.2.2.2.2.1 v_1.2.2.2.2.2.1) (([]:List Int),(0:Int),Zk.Reached t,Zk.ZB t,Zk.X7 t,List.replicate (ZeJ b) false,()))=_ from w1,Bq]
   rw [show (Zm (fun v_1=>ZEd b c l dirty (Zx b) (Zd5 (Zx b).length br) ((ZqN b br).1,0) v_1.1 v_1.2.1 v_1.2.2.1 v_1.2.2.2.1 v_1.2.2.2.2.1 v_1.2.2.2.2.2.1 v_1.2.2.2.2.2.2.1 v_1.2.2.2.2.2.2.2.1 v_1.2.2.2.2.2.2.2.2.1) (([]:List Int),(0:Int),([]:List Bool),([]:List Zu),([]:List Zu),Zk.Reached t,Zk.ZB t,Zk.X7 t,List.replicate (ZeJ b) false,()))=_ from w2,Bq]
   obtain ⟨ok,dn,tt⟩:=R
   cases ok with
   | true=>exact ⟨_,ZeJ b,rfl,rfl,by simp only [List.length_nil] at u1 ⊢;omega,u2,by omega⟩
   | false=>exact ⟨_,0,rfl,rfl,by simp,hnil,by omega⟩
  ·rw [if_neg (fun q=>hN ((Xx _).1 q)),if_neg (fun q=>hN ((Xx _).1 q))]
   exact ⟨_,0,rfl,rfl,by simp,hnil,by omega⟩
/-
  Plain laws: FnExactUpdateTiming.
-/
theorem ZFZ (a:List Zj) (h:tot (.sl Z6) a≤1048576):cnt (.sl Z6) a≤100+20*1048576:=by
 have hc:=Zn6 (.sl Z6) a
 have h1:wid (.sl Z6)≤100:=by decide
 have h2:ZcO (.sl Z6)≤20:=by decide
 have:=Nat.mul_le_mul_right (tot (.sl Z6) a) h2
 omega
theorem ZF0 (a:Zk) (h:tot Xd a≤1048576):cnt Xd a≤100+20*1048576:=by
 have hc:=Zn6 Xd a
 have h1:wid Xd≤100:=by decide
 have h2:ZcO Xd≤20:=by decide
 have:=Nat.mul_le_mul_right (tot Xd a) h2
 omega
theorem ZGb {t:Zk} {n:Nat} (h:ZsL n t) (hn:n≤1048576):sm Xd t :=
 ⟨⟨by rw [show t.1.length=n from h.lr];omega,fun x _=>XZ _ (by rfl) x⟩,⟨by rw [show t.2.1.length=n from h.la];omega,fun x _=>XZ _ (by rfl) x⟩,⟨by rw [show t.2.2.1.length=n from h.ls];omega,fun x _=>XZ _ (by rfl) x⟩,trivial⟩
theorem ZFP {t:Zk} {n:Nat} (h:ZsL n t) (hn:n≤1048576):cnt Xd t≤100+20*4194304:=by
 have hc:=Zn6 Xd t
 have h1:wid Xd≤100:=by decide
 have h2:ZcO Xd≤20:=by decide
 have h4:∀ (u:Ty) (l:List u.den),Ty.fixed u=true→tot (.sl u) l=l.length:=fun u l hu=>by rw [ZgR,Zke hu];omega
 have h3:tot Xd t≤4194304:=by
  have e:tot Xd t=tot (.sl .bool) t.1+(tot (.sl XJ) t.2.1+(tot (.sl XJ) t.2.2.1+0)):=rfl
  rw [e,h4 _ _ rfl,h4 _ _ rfl,h4 _ _ rfl,show t.1.length=n from h.lr,show t.2.1.length=n from h.la,show t.2.2.1.length=n from h.ls]
  omega
 have:=Nat.mul_le_mul h2 h3
 omega
theorem ZEB (a0:Zd) (a1:Zv) (a2:List Int) (a3:List Zj) (a4:Zk) (a5:List Int) (b0:bnd Yt a0) (b1:bnd X3 a1) (b2:bnd (.sl (.int .i64)) a2) (b3:bnd (.sl Z6) a3) (b4:bnd Xd a4) (b5:bnd (.sl (.int .i64)) a5):ZEe a0 a1 a2 a3 a4 a5=some true:=by
 unfold ZEe
 by_cases h2:(1048576:Int)<(a2.length:Int)
 ·rw [if_pos h2]
 rw [if_neg h2]
 by_cases h5:(1048576:Int)<(a5.length:Int)
 ·rw [if_pos h5]
 rw [if_neg h5]
 obtain ⟨n,e,hle,hP⟩:=ZmB a0 1048576 (by omega) (by omega) b0
 rw [e,Bq]
 by_cases hn:n<0
 ·rw [if_pos hn]
 rw [if_neg hn]
 have hs:=hP (by omega)
 have ht:=ZlD a0 1048576 (by omega) (by omega) b0 n e (by omega)
 obtain ⟨n1,e1,hle1,hP1⟩:=ZlG a1 n (by omega) (by omega) b1
 rw [e1,Bq]
 by_cases hn1:n1<0
 ·rw [if_pos hn1]
 rw [if_neg hn1]
 have hs1:=hP1 (by omega)
 obtain ⟨n3,e3,hle3,hP3⟩:=ZkM a3 n1 (by omega) (by omega) b3
 rw [e3,Bq]
 by_cases hn3:n3<0
 ·rw [if_pos hn3]
 rw [if_neg hn3]
 have hs3:=hP3 (by omega)
 have ht3:=ZjS a3 n1 (by omega) (by omega) b3 n3 e3 (by omega)
 obtain ⟨n4,e4,hle4,hP4⟩:=ZlK a4 n3 (by omega) (by omega) b4
 rw [e4,Bq]
 by_cases hn4:n4<0
 ·rw [if_pos hn4]
 rw [if_neg hn4]
 have hs4:=hP4 (by omega)
 have ht4:=ZkO a4 n3 (by omega) (by omega) b4 n4 e4 (by omega)
 have hs2:=Zvv a2 (by omega)
 have hs5:=Zvv a5 (by omega)
 have hcb:=Zti a0 (by omega)
 have hcs:=ZFZ a3 (by omega)
 have hct:=ZF0 a4 (by omega)
 have k2:=Zuw a2
 have k5:=Zuw a5
 have hl3:a3.length≤1048576:=by have:=hs3.1;omega
 obtain ⟨r,rn,c1,c2,c3,c4,c5⟩:=ZFV a0 a1 a2 a3 a4 a5 hs hs1 (by omega) hl3 (by omega)
 have d1:=ZGb c4 c5
 have d2:=ZFP c4 c5
 have d3:=ZFx Xd r.1
 have d4:=Zuw r.2.1
 have hr:=Zvv r.2.1 (by omega)
 have hct4:=ZFx Xd a4
 obtain ⟨m0,hm0⟩:=ZkD a0 1 hs (by omega) (by omega)
 obtain ⟨m2,hm2⟩:=YF a2 (1+((cnt Yt a0:Nat):Int)) hs2 (by omega) (by omega)
 obtain ⟨m3,hm3⟩:=ZiW a3 (1+((cnt Yt a0:Nat):Int)+((cnt (.sl (.int .i64)) a2:Nat):Int)) hs3 (by omega) (by omega)
 have hm4:=ZEF a4 (1+((cnt Yt a0:Nat):Int)+((cnt (.sl (.int .i64)) a2:Nat):Int)+((cnt (.sl Z6) a3:Nat):Int)) hs4 (by omega) (by omega)
 obtain ⟨m5,hm5⟩:=YF a5 (1+((cnt Yt a0:Nat):Int)+((cnt (.sl (.int .i64)) a2:Nat):Int)+((cnt (.sl Z6) a3:Nat):Int)+((ZFD Xd a4:Nat):Int)) hs5 (by omega) (by omega)
 have hm6:=ZEF r.1 1 d1 (by omega) (by omega)
 have hm7:=ZFo r.2.1 (1+((ZFD Xd r.1:Nat):Int)) hr (by omega) (by omega)
 have hm8:=ZFn r.1 1 d1 (by omega) (by omega)
 have hm9:=ZFm r.2.1 (1+((ZFD Xd r.1:Nat):Int)) hr (by omega) (by omega)
 have hneg:¬(1+((cnt Yt a0:Nat):Int)+((cnt (.sl (.int .i64)) a2:Nat):Int)+((cnt (.sl Z6) a3:Nat):Int)+((ZFD Xd a4:Nat):Int)+((cnt (.sl (.int .i64)) a5:Nat):Int))<0:=by omega
 have hneg2:¬(1+((ZFD Xd r.1:Nat):Int))<0:=by omega
 have hneg3:¬(1+((ZFD Xd r.1:Nat):Int)+((cnt (.sl (.int .i64)) r.2.1:Nat):Int))<0:=by omega
 simp only [ZmK _ hs,ZlM _ hs1,Y5 _ hs2,Y5 _ hs5,ZkS _ hs3,ZlP _ hs4,Bq,c1,c2,ZlA _ d1,YN _ hr,YN _ hs2,YN _ hs5,Zmu _ hs,ZkB _ hs3,ZlA _ hs4,if_true,hm0,hm2,hm3,hm4,hm5,hm6,hm7,hm8,hm9,hneg,hneg2,hneg3,if_false]
end Go.Proofs.YtclfgjepbamnlaaGreatDoor
