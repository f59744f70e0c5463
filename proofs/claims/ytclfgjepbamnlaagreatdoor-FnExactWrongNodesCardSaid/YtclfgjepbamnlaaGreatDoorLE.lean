/-
  Plain laws: nodes in order, in the reference.
-/
import Derived.Test.YtclfgjepbamnlaaGreatDoorLD
import Derived.Test.YtclfgjepbamnlaaGreatDoorLC
namespace Go.Proofs.YtclfgjepbamnlaaGreatDoor
set_option linter.unusedVariables false
set_option linter.unusedSimpArgs false
open Go Go.Sx
def cw (live:List Bool) (out:List Int) (v:Int) (k:Nat) (x:Zq):Nat:=if (live[k]?).getD false=true then (if Zq.To x=v then (if Zq.From x∈out then 0 else 1) else 0) else 0
def Zix (live:List Bool) (L:List Zq) (out:List Int) (v:Int):Nat:=foldI (fun k x s=>s+cw live out v k x) 0 L 0
def nxt (live:List Bool) (L:List Zq) (n:Nat) (out:List Int):Option Nat:=(List.range n).find? fun v=>decide ((v:Int) ∉ out)&&decide (Zix live L out (v:Int)=0)
def Zvt (live:List Bool) (L:List Zq) (n:Nat):Nat→List Int→List Int×Bool
 | 0,out=>(out,true)
 | m+1,out=>match nxt live L n out with
  | none=>([],false)
  | some v=>Zvt live L n m (out++[(v:Int)])
def ZkV (n:Nat) (p:Nat→Bool):List Bool:=(List.range n).map p
theorem Zds {n:Nat} {p:Nat→Bool} {v:Nat} (h:v<n):(ZkV n p)[v]?=some (p v):=by
 unfold ZkV
 rw [List.getElem?_map,List.getElem?_range h]
 rfl
theorem Zl2 (n:Nat) (p:Nat→Bool):(ZkV n p).length=n:=by unfold ZkV;simp
theorem Zry {n:Nat} {p q:Nat→Bool} {i:Nat} {b:Bool} (hi:i<n) (h1:q i=b) (h2:∀ j,j≠i→q j=p j):List.set (ZkV n p) i b=ZkV n q:=by
 apply List.ext_getElem?
 intro j
 rw [List.getElem?_set]
 by_cases c:i=j
 ·subst c
  rw [if_pos rfl,if_pos (by rw [Zl2];exact hi),Zds hi,h1]
 ·rw [if_neg c]
  by_cases hj:j<n
  ·rw [Zds hj,Zds hj,h2 j (fun e=>c e.symm)]
  ·rw [List.getElem?_eq_none (by rw [Zl2];omega),List.getElem?_eq_none (by rw [Zl2];omega)]
theorem Zod (n:Nat):List.replicate n false=ZkV n fun _=>false:=by
 apply List.ext_getElem?
 intro j
 by_cases hj:j<n
 ·rw [Zds hj,List.getElem?_replicate,if_pos hj]
 ·rw [List.getElem?_eq_none (by rw [List.length_replicate];omega),List.getElem?_eq_none (by rw [Zl2];omega)]
structure ZsC (live:List Bool) (L:List Zq) (n:Nat):Prop where
 few:L.length≤6000
 ll:live.length=L.length
 n0:n≤1000
 bd:∀ x∈L,(0≤Zq.From x∧Zq.From x<(n:Int))∧0≤Zq.To x∧Zq.To x<(n:Int)
theorem Za5 {live:List Bool} {L:List Zq} {out:List Int} {v:Int} {k:Nat} {x:Zq} (hx:L[k]?=some x):Zix live (L.take (k+1)) out v=Zix live (L.take k) out v+cw live out v k x:=by
 unfold Zix
 rw [Zes hx]
theorem Zsw {live:List Bool} {L:List Zq} {n:Nat} (h:ZsC live L n) {out:List Int} {Q:(List Int×List Bool×Unit) ⊕ (List Int×Bool)}
  (hQ:Zm (fun v=>YJ (n:Int) out (ZkV n fun v=>decide ((v:Int)∈out)) (ZkV n fun v=>decide (Zix live L out (v:Int)≠0)) v.1) ((0:Int),())=some (.inr Q)) :
  Zm (fun v=>Q6 (n:Int) L live out (ZkV n fun v=>decide ((v:Int)∈out)) v.1 v.2.1) ((0:Int),List.replicate (Int.toNat (n:Int)) false,())=some Q:=by
 have hf:=h.few
 have hll:=h.ll
 refine ZY L.length (fun k v=>v=((k:Int),ZkV n (fun v=>decide (Zix live (L.take k) out (v:Int)≠0)),())) _ ?_ ?_ ?_
 ·rw [Int.toNat_natCast,Zod]
  rfl
 ·rintro k _ hkl rfl
  have hx:L[k]?=some (L[k]'(by omega)):=List.getElem?_eq_getElem _
  have hlv:live[k]?=some (live[k]'(by omega)):=List.getElem?_eq_getElem _
  generalize L[k]'(by omega)=x at hx
  generalize live[k]'(by omega)=lv at hlv
  obtain ⟨⟨f0,f1⟩,t0,t1⟩:=h.bd x (List.mem_of_getElem? hx)
  have hfrom:atI (ZkV n fun v=>decide ((v:Int)∈out)) (Zq.From x)=some (decide (Zq.From x∈out)):=by
   refine Qj f0 ?_
   rw [Zds (by omega),show ((Zq.From x).toNat:Int)=Zq.From x by omega]
  have hto:∀ p:Nat→Bool,atI (ZkV n p) (Zq.To x)=some (p (Zq.To x).toNat):=fun p=>Qj t0 (Zds (by omega))
  refine .inl ⟨(((k+1:Nat):Int),ZkV n (fun v=>decide (Zix live (L.take (k+1)) out (v:Int)≠0)),()),?_,rfl⟩
  simp only [Q6,show (k:Int)<(L.length:Int) from by omega,if_true,Zn,hx,hlv,Bq,hfrom,hto,Xo (show k≤1048576 by omega)]
  have hsame:(∀ v:Nat,cw live out (v:Int) k x=0)→ZkV n (fun v=>decide (Zix live (L.take (k+1)) out (v:Int)≠0))=ZkV n (fun v=>decide (Zix live (L.take k) out (v:Int)≠0)):=fun hz=>by
   unfold ZkV
   refine List.map_congr_left fun v _=>?_
   rw [Za5 hx,hz,Nat.add_zero]
  by_cases q1:lv=true
  ·rw [if_pos q1]
   by_cases q2:Zq.From x∈out
   ·rw [if_pos (decide_eq_true q2),hsame (fun v=>by unfold cw;rw [hlv,Option.getD_some,if_pos q1,if_pos q2];split<;>rfl)]
   ·rw [if_neg (by rw [decide_eq_true_eq];exact q2)]
    rw [Zry (q:=fun v=>decide (Zix live (L.take (k+1)) out (v:Int)≠0)) (by omega) ?_ ?_]
    ·rw [decide_eq_true_eq,Za5 hx]
     unfold cw
     rw [hlv,Option.getD_some,if_pos q1,if_pos (by omega),if_neg q2]
     omega
    ·intro j hj
     rw [Za5 hx]
     unfold cw
     rw [hlv,Option.getD_some,if_pos q1,if_neg (by omega),Nat.add_zero]
  ·rw [if_neg q1,hsame (fun v=>by unfold cw;rw [hlv,Option.getD_some,if_neg q1])]
 ·rintro _ rfl
  show Q6 (n:Int) L live out (ZkV n fun v=>decide ((v:Int)∈out)) (L.length:Int) (ZkV n fun v=>decide (Zix live (L.take L.length) out (v:Int)≠0))=_
  unfold Q6
  rw [if_neg (Int.lt_irrefl _),List.take_length]
  exact hQ
theorem Zt0 {live:List Bool} {L:List Zq} {n:Nat} (h:ZsC live L n) {out:List Int} (ho:out.length≤1000) :
  Zm (fun v=>YJ (n:Int) out (ZkV n fun v=>decide ((v:Int)∈out)) (ZkV n fun v=>decide (Zix live L out (v:Int)≠0)) v.1) ((0:Int),()) =
   some (.inr (match nxt live L n out with
    | none=>.inr ([],false)
    | some v=>.inl (out++[(v:Int)],ZkV n (fun u=>decide ((u:Int)∈out++[(v:Int)])),()))):=by
 have hn:=h.n0
 have step:∀ k:Nat,k<n→(decide ((k:Int) ∉ out)&&decide (Zix live L out (k:Int)=0))=false→YJ (n:Int) out (ZkV n fun v=>decide ((v:Int)∈out)) (ZkV n fun v=>decide (Zix live L out (v:Int)≠0)) (k:Int)=some (.inl (((k+1:Nat):Int),())):=fun k hk hp=>by
  unfold YJ
  rw [if_pos (by omega),Zn,Zds hk,Bq,Xo (by omega)]
  by_cases q:(k:Int)∈out
  ·rw [if_pos (decide_eq_true q)]
  ·rw [if_neg (by rw [decide_eq_true_eq];exact q),Zn,Zds hk,Bq]
   have hw:Zix live L out (k:Int)≠0:=fun z=>by
    rw [decide_eq_true q,decide_eq_true z] at hp
    exact Bool.noConfusion hp
   rw [if_pos (decide_eq_true hw)]
 cases e:nxt live L n out with
 | none =>
  unfold nxt at e
  rw [List.find?_range_eq_none] at e
  refine ZY n (fun k v=>v=((k:Int),())) _ rfl ?_ ?_
  ·rintro k _ hk rfl
   exact .inl ⟨_,step k hk (by have:=e k hk;rw [Bool.not_eq_true'] at this;exact this),rfl⟩
  ·rintro _ rfl
   show YJ _ _ _ _ (n:Int)=_
   unfold YJ
   rw [if_neg (Int.lt_irrefl _),if_pos rfl]
 | some v =>
  unfold nxt at e
  rw [List.find?_range_eq_some] at e
  obtain ⟨hp,hv,hlow⟩:=e
  have hv:=List.mem_range.1 hv
  rw [Bool.and_eq_true,decide_eq_true_eq,decide_eq_true_eq] at hp
  refine ZY v (fun k u=>u=((k:Int),())) _ rfl ?_ ?_
  ·rintro k _ hk rfl
   exact .inl ⟨_,step k (by omega) (by have:=hlow k hk;rw [Bool.not_eq_true'] at this;exact this),rfl⟩
  ·rintro _ rfl
   show YJ _ _ _ _ (v:Int)=_
   unfold YJ
   rw [if_pos (by omega),Zn,Zds hv,Bq,if_neg (by rw [decide_eq_true_eq];exact hp.1),Zn,Zds hv,Bq,if_neg (by rw [decide_eq_true_eq];exact fun z=>z hp.2),if_neg (by omega),Zh (by simp only [List.length_cons,List.length_nil];omega),Int.toNat_natCast]
   rw [Zry (q:=fun u=>decide ((u:Int)∈out++[(v:Int)])) hv (decide_eq_true (List.mem_append.2 (.inr (List.mem_singleton.2 rfl)))) (fun j hj=>by
    rw [decide_eq_decide,List.mem_append,List.mem_singleton]
    constructor
    ·rintro (z | z)
     ·exact z
     ·omega
    ·exact .inl)]
theorem Znb {live:List Bool} {L:List Zq} {n:Nat} (h:ZsC live L n):∀ (m:Nat) (out:List Int),out.length+m=n→
  Zm (fun v=>Qi (n:Int) L live v.1 v.2.1) (out,ZkV n (fun u=>decide ((u:Int)∈out)),())=some (Zvt live L n m out)
 | 0,out,hm=>by
  refine Xe ?_
  show Qi (n:Int) L live out _=_
  unfold Qi
  rw [if_neg (by omega)]
  rfl
 | m+1,out,hm=>by
  have hn:=h.n0
  have hw:=Zsw h (Zt0 h (out:=out) (by omega))
  have hs:Qi (n:Int) L live out (ZkV n (fun u=>decide ((u:Int)∈out)))=some (match nxt live L n out with
    | none=>.inr ([],false)
    | some v=>.inl (out++[(v:Int)],ZkV n (fun u=>decide ((u:Int)∈out++[(v:Int)])),())):=by
   unfold Qi
   rw [if_pos (by omega)]
   exact hw
  unfold Zvt
  cases e:nxt live L n out with
  | none =>
   rw [e] at hs
   exact Xe hs
  | some v =>
   rw [e] at hs
   exact (Xh hs).trans (Znb h m (out++[(v:Int)]) (by rw [List.length_append];simp only [List.length_cons,List.length_nil];omega))
theorem Zo9 {live:List Bool} {L:List Zq} {n:Nat} (h:ZsC live L n):Zen (n:Int) L live=some (Zvt live L n n []):=by
 have hn:=h.n0
 unfold Zen
 rw [Zh (by omega),Zh (by omega),Zh (by omega),Zh (by omega),Int.toNat_natCast,Zod]
 have:=Znb h n [] (by simp)
 simpa using this
/-
  Plain laws: nodes in order, in the program (begun).
-/
def Zjd (n:Nat) (p:Nat→Int):List Int:=(List.range n).map p
theorem Zdq {n:Nat} {p:Nat→Int} {v:Nat} (h:v<n):(Zjd n p)[v]?=some (p v):=by
 unfold Zjd
 rw [List.getElem?_map,List.getElem?_range h]
 rfl
theorem Zdr (n:Nat) (p:Nat→Int):(Zjd n p).length=n:=by unfold Zjd;simp
theorem ZoY {n:Nat} {p q:Nat→Int} {i:Nat} {b:Int} (hi:i<n) (h1:q i=b) (h2:∀ j,j≠i→q j=p j):List.set (Zjd n p) i b=Zjd n q:=by
 apply List.ext_getElem?
 intro j
 rw [List.getElem?_set]
 by_cases c:i=j
 ·subst c
  rw [if_pos rfl,if_pos (by rw [Zdr];exact hi),Zdq hi,h1]
 ·rw [if_neg c]
  by_cases hj:j<n
  ·rw [Zdq hj,Zdq hj,h2 j (fun e=>c e.symm)]
  ·rw [List.getElem?_eq_none (by rw [Zdr];omega),List.getElem?_eq_none (by rw [Zdr];omega)]
def Zns (live:List Bool) (node:Int) (k:Nat) (x:Zq):List Int:=if (live[k]?).getD false=true then (if Zq.From x=node then [(k:Int)] else []) else []
def Zpv (b:Zd) (live:List Bool) (node:Int):List Int:=cat (Zns live node) 0 (Zx b)
theorem Ztm (live:List Bool) (node:Int) (k:Nat) (x:Zq):(Zns live node k x).length≤1:=by
 unfold Zns
 split
 ·split<;>simp
 ·simp
theorem Zpw {b:Zd} (h:Qm b) (live:List Bool) (node:Int) (n:Nat):(cat (Zns live node) 0 ((Zx b).take n)).length≤6000:=by
 have h1:=VQ (f:=Zns live node) (c:=1) (l:=(Zx b).take n) (m:=0) (fun k x _=>Ztm live node k x)
 have h2:=Qv h
 rw [List.length_take] at h1
 omega
theorem ZoK {b:Zd} (h:Qm b) {v:ZE} (hv:VOk b v) {live:List Bool} (hl:live.length=(Zx b).length) (node:Int):Zci (v,live,()) node=some (Zpv b live node):=by
 have h6:=Qv h
 have el:ZE.links (Yp.view ((v,live,()):Yp))=Zx b:=hv.links
 have ev:Yp.live ((v,live,()):Yp)=live:=rfl
 unfold Zci Y2
 have:=Xp (l:=Zx b) (ρ:=List Int) (Zns live node) [] (step:=fun u=>Yf (v,live,()) (node,()) u.1 u.2.1) (good:=Zpv b live node)
  (fun k x hx hk=>by
   have hlv:live[k]?=some (live[k]'(by omega)):=List.getElem?_eq_getElem _
   have hlen:=Zpw h live node k
   simp only [Yf,el,ev,show (k:Int)<((Zx b).length:Int) from by omega,if_true,Zn,hx,hlv,Bq,Zcj,List.nil_append,Xo (show k≤1048576 by omega)]
   unfold Zns at *
   rw [hlv]
   simp only [Option.getD_some]
   by_cases q1:live[k]'(by omega)=true
   ·rw [if_pos q1,if_pos q1]
    by_cases q2:Zq.From x=node
    ·rw [if_pos (decide_eq_true q2),if_pos q2,Zh (by simp only [List.length_cons,List.length_nil];omega)]
    ·rw [if_neg (by rw [decide_eq_true_eq];exact q2),if_neg q2,List.append_nil]
   ·rw [if_neg q1,if_neg q1,List.append_nil])
  (by simp only [Yf,el,Int.lt_irrefl,if_false,List.nil_append];rfl)
 rw [this]
 rfl
theorem Zsd {n:Nat} {p:Nat→Int} (hn:n≤1000):Vu (Zjd n p) 0=some (match (List.range n).find? (fun v=>decide (p v=0)) with
  | none=>-1
  | some v=>(v:Int)):=by
 unfold Vu
 cases e:(List.range n).find? (fun v=>decide (p v=0)) with
 | none =>
  rw [List.find?_range_eq_none] at e
  refine ZY n (fun k v=>v=((k:Int),())) _ rfl ?_ ?_
  ·rintro k _ hk rfl
   have hz:=e k hk
   rw [Bool.not_eq_true',decide_eq_false_iff_not] at hz
   simp only [Y3,Zdr,show (k:Int)<(n:Int) from by omega,if_true,Zn,Zdq hk,Bq,Xo (show k≤1048576 by omega)]
   rw [if_neg (fun z=>hz z.symm)]
   exact .inl ⟨_,rfl,rfl⟩
  ·rintro _ rfl
   simp only [Y3,Zdr,Int.lt_irrefl,if_false]
 | some v =>
  rw [List.find?_range_eq_some] at e
  obtain ⟨hp,hv,hlow⟩:=e
  have hv:=List.mem_range.1 hv
  rw [decide_eq_true_eq] at hp
  refine ZY v (fun k u=>u=((k:Int),())) _ rfl ?_ ?_
  ·rintro k _ hk rfl
   have hz:=hlow k hk
   rw [Bool.not_eq_true',decide_eq_false_iff_not] at hz
   simp only [Y3,Zdr,show (k:Int)<(n:Int) from by omega,if_true,Zn,Zdq (show k<n by omega),Bq,Xo (show k≤1048576 by omega)]
   rw [if_neg (fun z=>hz z.symm)]
   exact .inl ⟨_,rfl,rfl⟩
  ·rintro _ rfl
   simp only [Y3,Zdr,show (v:Int)<(n:Int) from by omega,if_true,Zn,Zdq hv,Bq]
   rw [if_pos hp.symm]
def Zq4 (live:List Bool) (k:Nat) (x:Zq):List Int:=if (live[k]?).getD false=true then [(k:Int)] else []
theorem Zq5 (live:List Bool) (k:Nat) (x:Zq):(Zq4 live k x).length≤1:=by
 unfold Zq4
 split<;>simp
theorem Zox {b:Zd} (h:Qm b) {v:ZE} (hv:VOk b v) {live:List Bool} (hl:live.length=(Zx b).length):Yw (v,live,()) ()=some (cat (Zq4 live) 0 (Zx b)):=by
 have h6:=Qv h
 have el:ZE.links (Yp.view ((v,live,()):Yp))=Zx b:=hv.links
 have ev:Yp.live ((v,live,()):Yp)=live:=rfl
 unfold Yw
 exact Xp (l:=Zx b) (ρ:=List Int) (Zq4 live) [] (step:=fun u=>Yd (v,live,()) u.1 u.2.1) (good:=cat (Zq4 live) 0 (Zx b))
  (fun k x hx hk=>by
   have hlv:live[k]?=some (live[k]'(by omega)):=List.getElem?_eq_getElem _
   have hlen:=VQ (f:=Zq4 live) (c:=1) (l:=(Zx b).take k) (m:=0) (fun k x _=>Zq5 live k x)
   rw [List.length_take] at hlen
   simp only [Yd,el,ev,show (k:Int)<((Zx b).length:Int) from by omega,if_true,Zn,hx,hlv,Bq,Zbu,List.nil_append,Xo (show k≤1048576 by omega)]
   unfold Zq4 at *
   rw [hlv]
   simp only [Option.getD_some]
   by_cases q1:live[k]'(by omega)=true
   ·rw [if_pos q1,if_pos q1,Zh (by simp only [List.length_cons,List.length_nil];omega)]
   ·rw [if_neg q1,if_neg q1,List.append_nil])
  (by simp only [Yd,el,Int.lt_irrefl,if_false,List.nil_append])
def ZsE (L:List Zq) (c:Int) (y:Int) (l:List Int):List Int:=match L[y.toNat]? with
 | some x=>List.set l (Zq.To x).toNat ((l[(Zq.To x).toNat]?).getD 0+c)
 | none=>l
theorem ZoO {L:List Zq} {c:Int} {k:Nat} {x:Zq} (hx:L[k]?=some x) (l:List Int):ZsE L c (k:Int) l=List.set l (Zq.To x).toNat ((l[(Zq.To x).toNat]?).getD 0+c):=by
 unfold ZsE
 rw [Int.toNat_natCast,hx]
theorem Zn8 {live:List Bool} {L:List Zq} {n:Nat} (h:ZsC live L n):∀ k,k≤L.length→foldI (fun k x l=>foldI (fun _ y l=>ZsE L 1 y l) 0 (Zq4 live k x) l) 0 (L.take k) (List.replicate n 0)=Zjd n fun v=>(Zix live (L.take k) [] (v:Int):Int)
 | 0,_=>by
  rw [List.take_zero]
  apply List.ext_getElem?
  intro j
  by_cases hj:j<n
  ·rw [Zdq hj]
   simp only [foldI]
   rw [List.getElem?_replicate,if_pos hj]
   rfl
  ·rw [List.getElem?_eq_none (by simp only [foldI];rw [List.length_replicate];omega),List.getElem?_eq_none (by rw [Zdr];omega)]
 | k+1,hk=>by
  have hll:=h.ll
  have hx:L[k]?=some (L[k]'(by omega)):=List.getElem?_eq_getElem _
  have hlv:live[k]?=some (live[k]'(by omega)):=List.getElem?_eq_getElem _
  generalize L[k]'(by omega)=x at hx
  generalize live[k]'(by omega)=lv at hlv
  obtain ⟨_,t0,t1⟩:=h.bd x (List.mem_of_getElem? hx)
  rw [Zes hx,Zn8 h k (by omega)]
  unfold Zq4
  rw [hlv,Option.getD_some]
  by_cases q:lv=true
  ·rw [if_pos q]
   show ZsE L 1 (k:Int) _=_
   rw [ZoO hx,Zdq (by omega),Option.getD_some]
   refine ZoY (by omega) ?_ (fun j hj=>?_)
   ·rw [Za5 hx]
    unfold cw
    rw [hlv,Option.getD_some,if_pos q,if_pos (by omega),if_neg (by simp)]
    omega
   ·rw [Za5 hx]
    unfold cw
    rw [hlv,Option.getD_some,if_pos q,if_neg (by omega),Nat.add_zero]
  ·rw [if_neg q]
   show Zjd n _=Zjd n _
   unfold Zjd
   refine List.map_congr_left fun v _=>?_
   rw [Za5 hx]
   unfold cw
   rw [hlv,Option.getD_some,if_neg q,Nat.add_zero]
theorem Zr6 {b:Zd} (h:Qm b) {v:ZE} (hv:VOk b v) {live:List Bool} {n:Nat} (hB:ZsC live (Zx b) n) {R:List Int×Bool}
  (hR:Zm (fun u=>Yr (v,live,()) (Zjd n fun u=>(Zix live (Zx b) [] (u:Int):Int)) u.1 u.2.1 u.2.2.1) (([]:List Int),(0:Int),Zjd n (fun u=>(Zix live (Zx b) [] (u:Int):Int)),())=some (.inr R)) :
  Zm (fun u=>Xr (v,live,()) (cat (Zq4 live) 0 (Zx b)) u.1 u.2.1) ((0:Int),List.replicate n (0:Int),())=some R:=by
 have h6:=hB.few
 have el:ZE.links (Yp.view ((v,live,()):Yp))=Zx b:=hv.links
 have hC:=VQ (f:=Zq4 live) (c:=1) (l:=Zx b) (m:=0) (fun k x _=>Zq5 live k x)
 refine Zet (l:=cat (Zq4 live) 0 (Zx b)) (by unfold Len;omega) (fun s i=>(i,s,())) (f:=fun _ y s=>ZsE (Zx b) 1 y s) (s0:=List.replicate n (0:Int)) (fun k s=>s.length=n∧∀ z∈s,0≤z∧z≤(k:Int)) ⟨List.length_replicate,fun z hz=>by have:=List.eq_of_mem_replicate hz;omega⟩ (fun m y s hy hI _=>?_) (fun s hI he=>?_)
 ·obtain ⟨hsl,hsb⟩:=hI
  have hm:=(List.getElem?_eq_some_iff.1 hy).1
  obtain ⟨k,x,hx,hyx⟩:=Qw.1 (List.mem_of_getElem? hy)
  rw [Nat.zero_add] at hyx
  have ey:y=(k:Int):=by
   unfold Zq4 at hyx
   split at hyx
   ·exact List.mem_singleton.1 hyx
   ·cases hyx
  subst ey
  obtain ⟨_,t0,t1⟩:=hB.bd x (List.mem_of_getElem? hx)
  have hz:s[(Zq.To x).toNat]?=some (s[(Zq.To x).toNat]'(by omega)):=List.getElem?_eq_getElem _
  have hzb:=hsb _ (List.mem_of_getElem? hz)
  generalize s[(Zq.To x).toNat]'(by omega)=z at hz hzb
  have ei:ZsE (Zx b) 1 (k:Int) s=List.set s (Zq.To x).toNat (z+1):=by rw [ZoO hx,hz];rfl
  refine ⟨?_,?_⟩
  ·show Xr (v,live,()) _ (m:Int) s=_
   unfold Xr
   rw [if_pos (by omega),Zn,hy,Bq,el,Zn,hx,Bq,Qj t0 hz,Bq,YZ (n:=z+1) (by omega) (by omega),ei]
  ·rw [ei]
   refine ⟨by rw [List.length_set];exact hsl,fun w hw=>?_⟩
   rcases List.mem_or_eq_of_mem_set hw with q | q
   ·have:=hsb w q;omega
   ·omega
 ·rw [Zju (fun y s=>ZsE (Zx b) 1 y s)] at he
  have hcf:=Zn8 hB (Zx b).length (Nat.le_refl _)
  rw [List.take_length] at hcf
  rw [hcf] at he
  subst he
  show Xr (v,live,()) _ ((cat (Zq4 live) 0 (Zx b)).length:Int) _=_
  unfold Xr
  rw [if_neg (Int.lt_irrefl _)]
  exact hR
def dw (live:List Bool) (w v:Int) (k:Nat) (x:Zq):Nat:=if (live[k]?).getD false=true then (if Zq.To x=v then (if Zq.From x=w then 1 else 0) else 0) else 0
def ZvM (live:List Bool) (L:List Zq) (w v:Int):Nat:=foldI (fun k x s=>s+dw live w v k x) 0 L 0
theorem Zjn {live:List Bool} {L:List Zq} {w v:Int} {k:Nat} {x:Zq} (hx:L[k]?=some x):ZvM live (L.take (k+1)) w v=ZvM live (L.take k) w v+dw live w v k x:=by
 unfold ZvM
 rw [Zes hx]
theorem Zuz (live:List Bool) {out:List Int} {w:Int} (hw:w ∉ out) (v:Int) (k:Nat) (x:Zq):cw live out v k x=cw live (out++[w]) v k x+dw live w v k x:=by
 unfold cw dw
 split
 ·split
  ·by_cases q:Zq.From x∈out
   ·rw [if_pos q,if_pos (List.mem_append.2 (.inl q)),if_neg (fun e=>hw (by rw [←e];exact q))]
   ·rw [if_neg q]
    by_cases e:Zq.From x=w
    ·rw [if_pos (List.mem_append.2 (.inr (List.mem_singleton.2 e))),if_pos e]
    ·rw [if_neg (fun z=>by rcases List.mem_append.1 z with z | z;exact q z;exact e (List.mem_singleton.1 z)),if_neg e]
  ·rfl
 ·rfl
theorem Zkl (live:List Bool) (L:List Zq) {out:List Int} {w:Int} (hw:w ∉ out) (v:Int):∀ k,k≤L.length→Zix live (L.take k) out v=Zix live (L.take k) (out++[w]) v+ZvM live (L.take k) w v
 | 0,_=>rfl
 | k+1,hk=>by
  have hx:L[k]?=some (L[k]'(by omega)):=List.getElem?_eq_getElem _
  rw [Za5 hx,Za5 hx,Zjn hx,Zkl live L hw v k (by omega),Zuz live hw v k]
  omega
theorem Zxo (live:List Bool) (L:List Zq) (out:List Int) (v:Int):∀ (m k:Nat) (x:Zq),m≤L.length→k<m→L[k]?=some x→cw live out v k x≤Zix live (L.take m) out v
 | 0,k,x,_,hk,_=>by omega
 | m+1,k,x,hm,hk,hx=>by
  have hy:L[m]?=some (L[m]'(by omega)):=List.getElem?_eq_getElem _
  rw [Za5 hy]
  by_cases e:k=m
  ·subst e
   rw [hx] at hy
   injection hy with hy
   rw [←hy]
   omega
  ·have:=Zxo live L out v m k x (by omega) (by omega) hx
   omega
noncomputable def opn (live:List Bool) (L:List Zq) (out:List Int) (u:Nat):Int:=if (u:Int)∈out then -1 else (Zix live L out (u:Int):Int)
def Clo (live:List Bool) (L:List Zq) (out:List Int):Prop:=∀ u∈out,Zix live L out u=0
theorem Zq9 {live:List Bool} {L:List Zq} {n:Nat} (h:ZsC live L n) {out:List Int} {w:Nat} (hw:w<n) (hn:(w:Int) ∉ out) (hc:Zix live L out (w:Int)=0) (hcl:Clo live L out):∀ k,k≤L.length→
  foldI (fun k x l=>foldI (fun _ y l=>ZsE L (-1) y l) 0 (Zns live (w:Int) k x) l) 0 (L.take k) (List.set (Zjd n (opn live L out)) w (-1))=Zjd n fun u=>if (u:Int)∈out++[(w:Int)] then -1 else (Zix live L out (u:Int):Int)-(ZvM live (L.take k) (w:Int) (u:Int):Int)
 | 0,_=>by
  rw [List.take_zero]
  simp only [foldI]
  refine ZoY hw ?_ (fun j hj=>?_)
  ·rw [if_pos (List.mem_append.2 (.inr (List.mem_singleton.2 rfl)))]
  ·unfold opn
   by_cases q:(j:Int)∈out
   ·rw [if_pos q,if_pos (List.mem_append.2 (.inl q))]
   ·rw [if_neg q,if_neg (fun z=>by
     rcases List.mem_append.1 z with z | z
     ·exact q z
     ·have:=List.mem_singleton.1 z;omega)]
    show _-((0:Nat):Int)=_
    omega
 | k+1,hk=>by
  have hll:=h.ll
  have hx:L[k]?=some (L[k]'(by omega)):=List.getElem?_eq_getElem _
  have hlv:live[k]?=some (live[k]'(by omega)):=List.getElem?_eq_getElem _
  generalize L[k]'(by omega)=x at hx
  generalize live[k]'(by omega)=lv at hlv
  obtain ⟨_,t0,t1⟩:=h.bd x (List.mem_of_getElem? hx)
  rw [Zes hx,Zq9 h hw hn hc hcl k (by omega)]
  have hle:=Zxo live L out (Zq.To x) L.length k x (Nat.le_refl _) (by omega) hx
  rw [List.take_length] at hle
  have hsame:(∀ u:Int,dw live (w:Int) u k x=0)→Zjd n (fun u=>if (u:Int)∈out++[(w:Int)] then -1 else (Zix live L out (u:Int):Int)-(ZvM live (L.take k) (w:Int) (u:Int):Int))=Zjd n fun u=>if (u:Int)∈out++[(w:Int)] then -1 else (Zix live L out (u:Int):Int)-(ZvM live (L.take (k+1)) (w:Int) (u:Int):Int):=fun hz=>by
   unfold Zjd
   refine List.map_congr_left fun u _=>?_
   rw [Zjn hx,hz,Nat.add_zero]
  unfold Zns
  rw [hlv,Option.getD_some]
  by_cases q:lv=true
  ·rw [if_pos q]
   by_cases qf:Zq.From x=(w:Int)
   ·rw [if_pos qf]
    have hcw:cw live out (Zq.To x) k x=1:=by
     unfold cw
     rw [hlv,Option.getD_some,if_pos q,if_pos rfl,if_neg (by rw [qf];exact hn)]
    have hto:Zq.To x ∉ out++[(w:Int)]:=fun z=>by
     rcases List.mem_append.1 z with z | z
     ·have:=hcl _ z;omega
     ·rw [List.mem_singleton.1 z,hc] at hle
      rw [List.mem_singleton.1 z] at hcw
      omega
    show ZsE L (-1) (k:Int) _=_
    rw [ZoO hx,Zdq (by omega),Option.getD_some,show (((Zq.To x).toNat:Nat):Int)=Zq.To x by omega,if_neg hto]
    refine ZoY (by omega) ?_ (fun j hj=>?_)
    ·rw [show (((Zq.To x).toNat:Nat):Int)=Zq.To x by omega,if_neg hto,Zjn hx]
     unfold dw
     rw [hlv,Option.getD_some,if_pos q,if_pos rfl,if_pos qf]
     omega
    ·have hd:dw live (w:Int) (j:Int) k x=0:=by
      unfold dw
      rw [hlv,Option.getD_some,if_pos q,if_neg (by omega)]
     rw [Zjn hx,hd,Nat.add_zero]
   ·rw [if_neg qf]
    exact hsame fun u=>by unfold dw;rw [hlv,Option.getD_some,if_pos q,if_neg qf];split<;>rfl
  ·rw [if_neg q]
   exact hsame fun u=>by unfold dw;rw [hlv,Option.getD_some,if_neg q]
/-
  Plain laws: nodes in order: the program's order is the reference's.
-/
theorem ZsY (live:List Bool) (L:List Zq) (out:List Int) (v:Int):∀ k,k≤L.length→Zix live (L.take k) out v≤k
 | 0,_=>Nat.le_refl _
 | k+1,hk=>by
  have hx:L[k]?=some (L[k]'(by omega)):=List.getElem?_eq_getElem _
  rw [Za5 hx]
  have:=ZsY live L out v k (by omega)
  have h1:cw live out v k (L[k]'(by omega))≤1:=by
   unfold cw
   split
   ·split
    ·split<;>omega
    ·omega
   ·omega
  omega
theorem ZxC {live:List Bool} {L:List Zq} {n:Nat} (h:ZsC live L n) (out:List Int) (u:Nat):-1≤opn live L out u∧opn live L out u≤6000:=by
 have h1:=ZsY live L out (u:Int) L.length (Nat.le_refl _)
 have h2:=h.few
 rw [List.take_length] at h1
 unfold opn
 split<;>omega
theorem Zuv {live:List Bool} {L:List Zq} {out:List Int} {w:Int} (hn:w ∉ out) (hc:Zix live L out w=0) (hcl:Clo live L out):Clo live L (out++[w]):=by
 intro u hu
 have hs:=Zkl live L hn u L.length (Nat.le_refl _)
 rw [List.take_length] at hs
 rcases List.mem_append.1 hu with q | q
 ·have:=hcl u q
  omega
 ·rw [List.mem_singleton.1 q] at hs ⊢
  omega
theorem Ztn {b:Zd} {live:List Bool} {w y:Int} (hy:y∈Zpv b live w):∃ (k:Nat) (x:Zq),y=(k:Int)∧(Zx b)[k]?=some x∧Zq.From x=w:=by
 obtain ⟨k,x,hx,hyx⟩:=Qw.1 hy
 rw [Nat.zero_add] at hyx
 unfold Zns at hyx
 split at hyx
 ·split at hyx
  ·rename_i q
   exact ⟨k,x,List.mem_singleton.1 hyx,hx,q⟩
  ·cases hyx
 ·cases hyx
theorem ZuB {b:Zd} (h:Qm b) {v:ZE} (hv:VOk b v) {live:List Bool} {n:Nat} (hB:ZsC live (Zx b) n) {out:List Int} {w:Nat} (hw:w<n) (hn:(w:Int) ∉ out) (hc:Zix live (Zx b) out (w:Int)=0) (hcl:Clo live (Zx b) out) (i:Int) :
  Zm (fun u=>Xq (v,live,()) out i (w:Int) (Zpv b live (w:Int)) u.1 u.2.1) ((0:Int),List.set (Zjd n (opn live (Zx b) out)) w (-1:Int),()) =
   some (.inl (out++[(w:Int)],Wq (i+1),Zjd n (opn live (Zx b) (out++[(w:Int)])),())):=by
 have h6:=hB.few
 have el:ZE.links (Yp.view ((v,live,()):Yp))=Zx b:=hv.links
 have hlen:(Zpv b live (w:Int)).length≤6000:=by
  have:=Zpw h live (w:Int) (Zx b).length
  rw [List.take_length] at this
  exact this
 refine Zet (l:=Zpv b live (w:Int)) (by unfold Len;omega) (fun s i=>(i,s,())) (f:=fun _ y s=>ZsE (Zx b) (-1) y s) (s0:=List.set (Zjd n (opn live (Zx b) out)) w (-1:Int)) (fun k s=>s.length=n∧∀ z∈s,-1-(k:Int)≤z∧z≤6000) ⟨by rw [List.length_set,Zdr],fun z hz=>?_⟩ (fun m y s hy hI _=>?_) (fun s hI he=>?_)
 ·rcases List.mem_or_eq_of_mem_set hz with q | q
  ·unfold Zjd at q
   obtain ⟨u,_,rfl⟩:=List.mem_map.1 q
   have:=ZxC hB out u
   omega
  ·omega
 ·obtain ⟨hsl,hsb⟩:=hI
  have hm:=(List.getElem?_eq_some_iff.1 hy).1
  obtain ⟨k,x,rfl,hx,_⟩:=Ztn (List.mem_of_getElem? hy)
  obtain ⟨_,t0,t1⟩:=hB.bd x (List.mem_of_getElem? hx)
  have hz:s[(Zq.To x).toNat]?=some (s[(Zq.To x).toNat]'(by omega)):=List.getElem?_eq_getElem _
  have hzb:=hsb _ (List.mem_of_getElem? hz)
  generalize s[(Zq.To x).toNat]'(by omega)=z at hz hzb
  have ei:ZsE (Zx b) (-1) (k:Int) s=List.set s (Zq.To x).toNat (z-1):=by rw [ZoO hx,hz];rfl
  refine ⟨?_,?_⟩
  ·show Xq (v,live,()) out i (w:Int) _ (m:Int) s=_
   unfold Xq
   rw [if_pos (by omega),Zn,hy,Bq,el,Zn,hx,Bq,Qj t0 hz,Bq,YZ (n:=z-1) (by omega) (by omega),ei]
  ·rw [ei]
   refine ⟨by rw [List.length_set];exact hsl,fun z' hz'=>?_⟩
   rcases List.mem_or_eq_of_mem_set hz' with q | q
   ·have:=hsb z' q;omega
   ·omega
 ·have hd:=Zq9 hB hw hn hc hcl (Zx b).length (Nat.le_refl _)
  unfold Zpv at he
  rw [Zju (fun y s=>ZsE (Zx b) (-1) y s)] at he
  rw [List.take_length] at hd
  rw [hd] at he
  subst he
  show Xq (v,live,()) out i (w:Int) _ ((Zpv b live (w:Int)).length:Int) _=_
  unfold Xq
  rw [if_neg (Int.lt_irrefl _)]
  congr 6
  unfold Zjd
  refine List.map_congr_left fun u _=>?_
  have hs:=Zkl live (Zx b) hn (u:Int) (Zx b).length (Nat.le_refl _)
  rw [List.take_length] at hs
  unfold opn
  split
  ·rfl
  ·omega
theorem ZxA (live:List Bool) (L:List Zq) (n:Nat) (out:List Int):(List.range n).find? (fun v=>decide (opn live L out v=0))=nxt live L n out:=by
 unfold nxt
 congr 1
 funext v
 unfold opn
 by_cases q:(v:Int)∈out
 ·rw [if_pos q,decide_eq_false (by omega),decide_eq_false (fun z=>z q),Bool.false_and]
 ·rw [if_neg q,decide_eq_true q,Bool.true_and,decide_eq_decide]
  omega
theorem Zmo {b:Zd} (h:Qm b) {v:ZE} (hv:VOk b v) {live:List Bool} {n:Nat} (hB:ZsC live (Zx b) n) {l0:List Int} (hl0:l0.length=n):∀ (m:Nat) (out:List Int),out.length+m=n→Clo live (Zx b) out→
  Zm (fun u=>Yr (v,live,()) l0 u.1 u.2.1 u.2.2.1) (out,(out.length:Int),Zjd n (opn live (Zx b) out),())=some (.inr (Zvt live (Zx b) n m out))
 | 0,out,hm,hcl=>by
  refine Xe ?_
  show Yr (v,live,()) l0 out (out.length:Int) _=_
  unfold Yr
  rw [if_neg (by omega)]
  rfl
 | m+1,out,hm,hcl=>by
  have hn:=hB.n0
  have hi:=Zsd (p:=opn live (Zx b) out) hB.n0
  rw [ZxA] at hi
  unfold Zvt
  cases e:nxt live (Zx b) n out with
  | none =>
   rw [e] at hi
   refine Xe ?_
   show Yr (v,live,()) l0 out (out.length:Int) _=_
   unfold Yr
   rw [if_pos (by omega),hi]
   rfl
  | some w =>
   rw [e] at hi
   have e':=e
   unfold nxt at e'
   rw [List.find?_range_eq_some] at e'
   obtain ⟨hp,hw,_⟩:=e'
   have hw:=List.mem_range.1 hw
   rw [Bool.and_eq_true,decide_eq_true_eq,decide_eq_true_eq] at hp
   have hstep:Yr (v,live,()) l0 out (out.length:Int) (Zjd n (opn live (Zx b) out))=some (.inl (out++[(w:Int)],((out++[(w:Int)]).length:Int),Zjd n (opn live (Zx b) (out++[(w:Int)])),())):=by
    unfold Yr
    rw [if_pos (by omega),hi,Bq]
    show (if (w:Int)<0 then _ else _)=_
    rw [if_neg (by omega),Zn,Zdq hw,Bq,Zh (by simp only [List.length_cons,List.length_nil];omega),ZoK h hv hB.ll,Bq,Int.toNat_natCast,ZuB h hv hB hw hp.1 hp.2 hcl,Xo (by omega)]
    rw [List.length_append]
    rfl
   exact (Xh hstep).trans (Zmo h hv hB hl0 m (out++[(w:Int)]) (by rw [List.length_append];simp only [List.length_cons,List.length_nil];omega) (Zuv hp.1 hp.2 hcl))
theorem ZoN {b:Zd} (h:Qm b) {v:ZE} (hv:VOk b v) {live:List Bool} {n:Nat} (hB:ZsC live (Zx b) n) (hn:YM v=some (n:Int)):Vg (v,live,())=some (Zvt live (Zx b) n n []):=by
 have h1:=hB.n0
 unfold Vg
 show (YM v).bind _=_
 rw [hn,Bq,Zh (by omega),Zh (by omega),Zh (by omega),Zh (by omega),Zox h hv hB.ll,Bq,Int.toNat_natCast]
 refine Zr6 h hv hB ?_
 have:=Zmo h hv hB (l0:=Zjd n fun u=>(Zix live (Zx b) [] (u:Int):Int)) (Zdr _ _) n [] (by simp) (fun u hu=>by cases hu)
 have e:Zjd n (opn live (Zx b) [])=Zjd n fun u=>(Zix live (Zx b) [] (u:Int):Int):=by
  unfold Zjd
  refine List.map_congr_left fun u _=>?_
  unfold opn
  rw [if_neg (by simp)]
 rw [e] at this
 exact this
/-
  Plain laws: the graph of a timing: program and reference ask the same of their arguments.
-/
abbrev ZeJ (b:Zd):Nat:=2*(places (Zd.Design b)).length
abbrev Zje (b:Zd) (br:List Int):List Bool:=Zd5 (Zx b).length br
def ZqN (b:Zd) (br:List Int):List Int×Bool:=Zvt (Zje b br) (Zx b) (ZeJ b) (ZeJ b) []
theorem nN (b:Zd):ZeJ b=2*(places (Zd.Design b)).length:=rfl
theorem Zj1 {b:Zd} (h:Qm b):ZeJ b≤156:=by
 have:=X5 h.ok.1.few
 have:=nN b
 omega
theorem ZBv {b:Zd} (h:Qm b) (br:List Int):ZsC (Zje b br) (Zx b) (ZeJ b) where
 few:=Qv h
 ll:=ZkU _ _
 n0:=by have:=Zj1 h;omega
 bd:=fun x hx=>by
  have:=Zf3 h hx
  have:=nN b
  omega
theorem ZrI {b:Zd} (h:Qm b) {v:ZE} (hv:VOk b v):YM v=some (ZeJ b:Int):=by
 have:=Zj1 h
 have e:=nN b
 unfold YM
 rw [show Qb (ZE.places v)=some ((ZE.places v).length:Int) from rfl,Bq,hv.places,YZ (by omega) (by omega)]
 congr 1
theorem ZqF {b:Zd} (h:Qm b) {v:ZE} (hv:VOk b v) {br:List Int} (hbr:br.length≤1048576):Vq v br=some (tr (Zoq ((Zx b).length:Int) br)):=by
 have hLs:=Qv h
 unfold Vq
 rw [show J8 (ZE.links v)=some ((ZE.links v).length:Int) from rfl,Bq,hv.links,YZ (by omega) (by omega)]
 exact ZqE br _ hbr
theorem Zoc {b:Zd} (h:Qm b) {br:List Int} (hbr:br.length≤1048576):ZdK b br=some (sel (Zoq ((Zx b).length:Int) br) 0 2):=by
 have hLs:=Qv h
 unfold ZdK
 rw [ZeM b h.sm,Bq,if_pos (Yc h.ok),ZdX h,Bq,Zk8 br _ hbr (by omega),Bq]
 by_cases q:Zoq ((Zx b).length:Int) br
 ·rw [if_pos (Yc q),XU q]
 ·rw [if_neg (fun z=>q ((Xx _).1 z)),Xu q]
theorem Ze5 {b:Zd} (h:Qm b):QH b=some (ZeJ b:Int):=by
 rw [ZlX h.ok.1.few]
 congr 1
theorem ZwV {b:Zd} (h:Qm b) {br:List Int} (hbr:br.length≤1048576) (hR:Zoq ((Zx b).length:Int) br):Vw b br=some (if (ZqN b br).2=true then ((ZqN b br).1,0) else ([],7)):=by
 have hLs:=Qv h
 unfold Vw
 rw [Zoc h hbr,Bq,XU hR,if_pos rfl,ZdX h,Bq,Ze5 h,Bq,ZhQ _ _ hLs hbr,Bq,Zo9 (ZBv h br),Bq]
 show (if (ZqN b br).2=true then _ else _)=_
 split<;>rfl
theorem Zu4 {b:Zd} (h:Qm b) {v:ZE} (hv:VOk b v) (br:List Int):Vg (v,Zje b br,())=some (ZqN b br) :=
 ZoN h hv (ZBv h br) (ZrI h hv)
theorem Zsc {b:Zd} (h:Qm b) {v:ZE} (hv:VOk b v) {br:List Int} (hbr:br.length≤1048576) (hR:Zoq ((Zx b).length:Int) br):QO v br=some (v,Zje b br,()):=by
 have hLs:=Qv h
 have:=Zsb v br (by rw [hv.links];exact hLs) (by rw [hv.links];exact hR.1) hbr
 rw [hv.links] at this
 exact this
theorem ZDW {b:Zd} {t:Zk} (ht:Zqn (2*((places (Zd.Design b)).length:Int)) t):ZsL (ZeJ b) t:=by
 obtain ⟨h1,h2,h3,h4⟩:=ht
 have e0:=nN b
 refine ⟨by omega,by omega,by omega,fun s hs=>?_⟩
 obtain ⟨k,hk⟩:=List.mem_iff_getElem?.1 hs
 have hl:=(List.getElem?_eq_some_iff.1 hk).1
 obtain ⟨a,s',_,e,_,e2,_⟩:=h4 k _ (List.getElem?_eq_getElem (show k<(Zk.Reached t).length by omega))
 rw [hk] at e
 injection e with e
 subst e
 obtain ⟨z1,z2,z3⟩:=e2
 exact ⟨⟨by omega,by omega⟩,by omega,by omega⟩
theorem Zt1 {n:Int} {l:List Zj} (h:Zeq l (Zda n l)) {i:Nat} {x:Zj} (hx:l[i]?=some x):∀ (m:Nat) (y:Zj),l[i+m+1]?=some y→Zj.Node x<Zj.Node y
 | 0,y,hy=>(h (i+1) y hy).2.1 x (by omega) hx
 | m+1,y,hy=>by
  have hl:=(List.getElem?_eq_some_iff.1 hy).1
  have hz:l[i+m+1]?=some (l[i+m+1]'(by omega)):=List.getElem?_eq_getElem _
  have h1:=Zt1 h hx m _ hz
  have h2:=(h (i+m+1+1) y hy).2.1 _ (by omega) hz
  omega
theorem ZxB {n:Int} {l:List Zj} (h:Zeq l (Zda n l)):Zq3 l:=by
 intro i j x y hx hy he
 rcases Nat.lt_trichotomy i j with q | q | q
 ·have:=Zt1 h hx (j-i-1) y (by rw [show i+(j-i-1)+1=j by omega];exact hy)
  omega
 ·exact q
 ·have:=Zt1 h hy (i-j-1) x (by rw [show j+(i-j-1)+1=i by omega];exact hx)
  omega
structure Zxb (b:Zd) (c:Zv) (br:List Int) (l:List Zj):Prop where
 blk:Qm b
 cor:JL c
 ris:Zoq ((Zx b).length:Int) br
 src:Zeq l (Zda (2*((places (Zd.Design b)).length:Int)) l)
 ord:(ZqN b br).2=true
theorem Zw0 (b:Zd) (c:Zv) (br:List Int) (l:List Zj) (t:Zk) (hb:sm Yt b) (hc:sm X3 c) (hbr:br.length≤1048576) (hl:l.length≤1048576) :
  (∃ code:Int,code≠0∧Ju b c br l (some t)=some (none,[],code)∧ZdN b c br l t=some code)∨
  (∃ v,Zxb b c br l∧Zqn (2*((places (Zd.Design b)).length:Int)) t∧VOk b v∧Ju b c br l (some t)=some (some (v,Zje b br,()),(ZqN b br).1,0)∧ZdN b c br l t=some 0):=by
 unfold Ju ZdN
 rw [ZeM b hb,Zmj b hb,Bq,Bq]
 by_cases hB:Zkj b
 rotate_left
 ·rw [if_neg (fun q=>hB ((Xx _).1 q)),if_neg (fun q=>hB ((Xx _).1 q))]
  exact .inl ⟨1,by decide,rfl,rfl⟩
 have h:Qm b:=⟨hB,hb⟩
 rw [if_pos (Yc hB),if_pos (Yc hB),ZgP c hc,Zlt c,Bq,Bq]
 by_cases hC:JL c
 rotate_left
 ·rw [if_neg (fun q=>hC ((Xx _).1 q)),if_neg (fun q=>hC ((Xx _).1 q))]
  exact .inl ⟨1,by decide,rfl,rfl⟩
 obtain ⟨v,hv1,hv⟩:=ZwZ h
 have hn:=Zj1 h
 have e0:=nN b
 rw [if_pos (Yc hC),if_pos (Yc hC),hv1,Bq,if_neg (by simp),Bq,Zlw h v hv.places t,Ze5 h,Bq,Bq,Zk9 (by omega) (by omega) t,Bq,show ((ZeJ b:Nat):Int)=2*((places (Zd.Design b)).length:Int) by omega]
 by_cases hT:Zqn (2*((places (Zd.Design b)).length:Int)) t
 rotate_left
 ·rw [if_neg (fun q=>hT ((Xx _).1 q)),if_neg (fun q=>hT ((Xx _).1 q))]
  exact .inl ⟨1,by decide,rfl,rfl⟩
 rw [if_pos (Yc hT),if_pos (Yc hT)]
 unfold ZhR
 rw [ZeM b hb,Bq,if_pos (Yc hB),ZgP c hc,Bq,if_pos (Yc hC),Zoc h hbr,ZqF h hv hbr,Bq,Bq]
 by_cases hR:Zoq ((Zx b).length:Int) br
 rotate_left
 ·rw [if_neg (fun q=>hR ((Xx _).1 q)),Xu hR,if_neg (by decide)]
  exact .inl ⟨2,by decide,rfl,rfl⟩
 rw [if_pos (Yc hR),XU hR,if_pos rfl,ZjB h v hv.places l hl,Zkd h l hl,Bq,Bq]
 by_cases hS:Zeq l (Zda (2*((places (Zd.Design b)).length:Int)) l)
 rotate_left
 ·rw [if_neg (fun q=>hS ((Xx _).1 q)),if_neg (fun q=>hS ((Xx _).1 q))]
  exact .inl ⟨2,by decide,rfl,rfl⟩
 rw [if_pos (Yc hS),if_pos (Yc hS),Zsc h hv hbr hR,Bq,Zu4 h hv br,ZwV h hbr hR,Bq,Bq]
 by_cases hO:(ZqN b br).2=true
 rotate_left
 ·rw [if_neg hO,if_neg hO]
  exact .inl ⟨7,by decide,rfl,rfl⟩
 rw [if_pos hO,if_pos hO]
 exact .inr ⟨v,⟨h,hC,hR,hS,hO⟩,hT,hv,rfl,rfl⟩
/-
  Plain laws: the wrong nodes of a timing.
-/
def eqS (a b:Zu):Bool:=decide (Zu.Early a=Zu.Early b)&&decide (Zu.Late a=Zu.Late b)
theorem Zrg (a b:Zu):eqS a b=eqS b a:=by
 unfold eqS
 congr 1<;>exact decide_eq_decide.2 ⟨Eq.symm,Eq.symm⟩
def ZvL (x:Bool) (a s:Zu) (r:Bool×Zj):Bool:=if (x == r.1)=true then (if eqS a (Zj.ZB r.2)=true then !(eqS s (Zj.X7 r.2)) else true) else true
def ZBw (t:Zk) (k:Nat) (r:Bool×Zj):Zk:=(List.set (Zk.Reached t) k r.1,List.set (Zk.ZB t) k (Zj.ZB r.2),List.set (Zk.X7 t) k (Zj.X7 r.2),())
theorem ZxK {t:Zk} {k:Nat} {x:Bool} {a s:Zu} (hx:atI (Zk.Reached t) (k:Int)=some x) (ha:atI (Zk.ZB t) (k:Int)=some a) (hs:atI (Zk.X7 t) (k:Int)=some s) (node:Int) (st:NSt) :
  ZgA t (k:Int) (ZrQ node st).1 (ZrQ node st).2=some (ZvL x a s (ZrQ node st),ZBw t k (ZrQ node st)):=by
 unfold ZgA ZvL ZBw
 cases st with
 | none =>
  show (if false=true then _ else (atI (Zk.Reached t) (k:Int)).bind _)=_
  rw [if_neg (by decide),hx,Bq,ha,Bq,hs,Bq,Bq,Int.toNat_natCast]
  show (if (x == false)=true then (if eqS a Znj=true then _ else _) else _)=some (if (x == false)=true then (if eqS a Znj=true then _ else _) else _,_)
  split
  ·split
   ·rfl
   ·rfl
  ·rfl
 | some q =>
  show (if true=true then (atI (Zk.Reached t) (k:Int)).bind _ else _)=_
  rw [if_pos rfl,hx,Bq,ha,Bq,hs,Bq,Bq,Int.toNat_natCast]
  show (if (x == true)=true then (if eqS a q.1=true then _ else _) else _)=some (if (x == true)=true then (if eqS a q.1=true then _ else _) else _,_)
  split
  ·split
   ·rfl
   ·rfl
  ·rfl
theorem ZxD {t:Zk} {n:Nat} (ht:ZsL n t) (hn:n≤1048576):Zgz t=some t:=by
 have h1:=ht.lr
 have h2:=ht.la
 have h3:=ht.ls
 unfold Zgz
 rw [Zh (by simp only [List.length_nil];omega),Zh (by simp only [List.length_nil];omega),Zh (by simp only [List.length_nil];omega),List.nil_append,List.nil_append,List.nil_append]
theorem Zt6 {t:Zk} {n k:Nat} (ht:ZsL n t) (hk:k<n):∃ x a s,atI (Zk.Reached t) (k:Int)=some x∧atI (Zk.ZB t) (k:Int)=some a∧atI (Zk.X7 t) (k:Int)=some s:=by
 have h1:=ht.lr
 have h2:=ht.la
 have h3:=ht.ls
 exact ⟨_,_,_,by rw [Zn];exact List.getElem?_eq_getElem (by omega),by rw [Zn];exact List.getElem?_eq_getElem (by omega),by rw [Zn];exact List.getElem?_eq_getElem (by omega)⟩
noncomputable def Zlo (b:Zd) (c:Zv) (live:List Bool) (l:List Zj) (t:Zk) (k:Nat):Bool :=
 ZvL ((atI (Zk.Reached t) (k:Int)).getD false) ((atI (Zk.ZB t) (k:Int)).getD Znj) ((atI (Zk.X7 t) (k:Int)).getD Znj) (ZrQ (k:Int) (Zj5 b c live l t (k:Int)))
noncomputable def ZfX (b:Zd) (c:Zv) (live:List Bool) (l:List Zj) (t:Zk) (n:Nat):List Int:=((List.range n).filter (Zlo b c live l t)).map fun (k:Nat)=>(k:Int)
theorem Zni (b:Zd) (c:Zv) (live:List Bool) (l:List Zj) (t:Zk) (n:Nat):ZfX b c live l t (n+1)=ZfX b c live l t n++(if Zlo b c live l t n=true then [(n:Int)] else []):=by
 unfold ZfX
 rw [List.range_succ,List.filter_append,List.map_append]
 congr 1
 by_cases q:Zlo b c live l t n=true
 ·rw [if_pos q,List.filter_cons_of_pos q];rfl
 ·rw [if_neg q,List.filter_cons_of_neg q];rfl
theorem Zla (b:Zd) (c:Zv) (live:List Bool) (l:List Zj) (t:Zk) (n:Nat):(ZfX b c live l t n).length≤n:=by
 unfold ZfX
 rw [List.length_map]
 have:=List.length_filter_le (Zlo b c live l t) (List.range n)
 rw [List.length_range] at this
 exact this
theorem Zq0 {b:Zd} {c:Zv} {br:List Int} {l:List Zj} {t:Zk} {v:ZE} (hA:Zxb b c br l) (hT:ZsL (ZeJ b) t) (hv:VOk b v) (hl:l.length≤1048576) :
  Zm (fun u=>XG b c l t (Zx b) (Zje b br) u.1 u.2.1) (([]:List Int),(0:Int),())=some (ZfX b c (Zje b br) l t (ZeJ b),0)∧
  Zm (fun u=>XC c l t (v,Zje b br,()) (ZeJ b:Int) u.1 u.2.1) (([]:List Int),(0:Int),())=some (ZfX b c (Zje b br) l t (ZeJ b),0):=by
 have h:=hA.blk
 have hn:=Zj1 h
 have hll:(Zje b br).length=(Zx b).length:=ZkU _ _
 have hlen:Len l:=by unfold Len;omega
 constructor
 ·refine ZY (ZeJ b) (fun k u=>u=(ZfX b c (Zje b br) l t k,(k:Int),())) _ rfl ?_ ?_
  ·rintro k _ hk rfl
   obtain ⟨x,a,s,hx,ha,hs⟩:=Zt6 hT hk
   have hw:=Zla b c (Zje b br) l t k
   refine .inl ⟨_,?_,rfl⟩
   show XG b c l t (Zx b) (Zje b br) (ZfX b c (Zje b br) l t k) (k:Int)=_
   unfold XG
   rw [Ze5 h,Bq,if_pos (by omega),Zp7 h hv hA.cor hll hT hlen,Bq,ZxD hT (by omega),Bq,ZxK hx ha hs,Bq,Xo (by omega),Zni]
   have e:Zlo b c (Zje b br) l t k=ZvL x a s (ZrQ (k:Int) (Zj5 b c (Zje b br) l t (k:Int))):=by
    unfold Zlo
    rw [hx,ha,hs]
    rfl
   rw [e]
   by_cases q:ZvL x a s (ZrQ (k:Int) (Zj5 b c (Zje b br) l t (k:Int)))=true
   ·rw [if_pos q,if_pos q,Zh (by simp only [List.length_cons,List.length_nil];omega)]
   ·rw [if_neg q,if_neg q,List.append_nil]
  ·rintro _ rfl
   show XG b c l t (Zx b) (Zje b br) (ZfX b c (Zje b br) l t (ZeJ b)) (ZeJ b:Int)=_
   unfold XG
   rw [Ze5 h,Bq,if_neg (Int.lt_irrefl _)]
 ·refine ZY (ZeJ b) (fun k u=>u=(ZfX b c (Zje b br) l t k,(k:Int),())) _ rfl ?_ ?_
  ·rintro k _ hk rfl
   obtain ⟨x,a,s,hx,ha,hs⟩:=Zt6 hT hk
   have hw:=Zla b c (Zje b br) l t k
   refine .inl ⟨_,?_,rfl⟩
   show XC c l t (v,Zje b br,()) (ZeJ b:Int) (ZfX b c (Zje b br) l t k) (k:Int)=_
   unfold XC
   rw [if_pos (by omega),ZpB h hv hA.cor hll hT hlen (ZxB hA.src),Bq,hx,Bq,ha,Bq,hs,Bq,Xo (by omega),Zni,Zh (by simp only [List.length_cons,List.length_nil];omega)]
   have e:Zlo b c (Zje b br) l t k=ZvL x a s (ZrQ (k:Int) (Zj5 b c (Zje b br) l t (k:Int))):=by
    unfold Zlo
    rw [hx,ha,hs]
    rfl
   rw [e]
   generalize ZrQ (k:Int) (Zj5 b c (Zje b br) l t (k:Int))=r
   show (if (r.1 == x)=true then (if eqS (Zj.ZB r.2) a=true then (if eqS (Zj.X7 r.2) s=true then _ else _) else _) else _)=_
   unfold ZvL
   rw [show (r.1 == x)=(x == r.1) from Bool.beq_comm,Zrg _ a,Zrg _ s]
   by_cases q1:(x == r.1)=true
   ·rw [if_pos q1,if_pos q1]
    by_cases q2:eqS a (Zj.ZB r.2)=true
    ·rw [if_pos q2,if_pos q2]
     by_cases q3:eqS s (Zj.X7 r.2)=true
     ·rw [if_pos q3,q3,if_neg (by decide),List.append_nil]
     ·rw [if_neg q3,if_pos (by rw [Bool.not_eq_true] at q3;rw [q3];rfl)]
    ·rw [if_neg q2,if_neg q2,if_pos rfl]
   ·rw [if_neg q1,if_neg q1,if_pos rfl]
  ·rintro _ rfl
   show XC c l t (v,Zje b br,()) (ZeJ b:Int) (ZfX b c (Zje b br) l t (ZeJ b)) (ZeJ b:Int)=_
   unfold XC
   rw [if_neg (Int.lt_irrefl _)]
theorem Zvi (b:Zd) (c:Zv) (br:List Int) (l:List Zj) (t:Zk) (hb:sm Yt b) (hc:sm X3 c) (hbr:br.length≤1048576) (hl:l.length≤1048576) :
  ∃ r,Zcg b c br l t=some r∧ZcC b c br l t=some r∧r.1.length≤1048576:=by
 unfold Zcg ZcC
 rcases Zw0 b c br l t hb hc hbr hl with ⟨code,hne,e1,e2⟩ | ⟨v,hA,hT,hv,e1,e2⟩
 ·rw [e1,e2,Bq,Bq,if_neg hne,if_neg hne]
  exact ⟨_,rfl,rfl,by simp⟩
 ·have h:=hA.blk
  have hn:=Zj1 h
  obtain ⟨w1,w2⟩:=Zq0 hA (ZDW hT) hv hl
  rw [e1,e2,Bq,if_pos rfl,Bq,show YM (Yp.view ((v,Zje b br,()):Yp))=some (ZeJ b:Int) from ZrI h hv,Bq,Bq,if_pos rfl,ZdX h,Bq,ZhQ _ _ (Qv h) hbr,Bq]
  refine ⟨_,w2,w1,?_⟩
  have:=Zla b c (Zje b br) l t (ZeJ b)
  simp only
  omega
/-
  Plain laws: FnExactWrongNodes.
-/
theorem ZvQ (a:List Zj) (h:tot (.sl Z6) a≤1048576):cnt (.sl Z6) a≤100+20*1048576:=by
 have hc:=Zn6 (.sl Z6) a
 have h1:wid (.sl Z6)≤100:=by decide
 have h2:ZcO (.sl Z6)≤20:=by decide
 have:=Nat.mul_le_mul_right (tot (.sl Z6) a) h2
 omega
theorem ZvR (a:Zk) (h:tot Xd a≤1048576):cnt Xd a≤100+20*1048576:=by
 have hc:=Zn6 Xd a
 have h1:wid Xd≤100:=by decide
 have h2:ZcO Xd≤20:=by decide
 have:=Nat.mul_le_mul_right (tot Xd a) h2
 omega
theorem Zfz (a0:Zd) (a1:Zv) (a2:List Int) (a3:List Zj) (a4:Zk) (b0:bnd Yt a0) (b1:bnd X3 a1) (b2:bnd (.sl (.int .i64)) a2) (b3:bnd (.sl Z6) a3) (b4:bnd Xd a4):Qc a0 a1 a2 a3 a4=some true:=by
 unfold Qc
 by_cases h2:(1048576:Int)<(a2.length:Int)
 ·rw [if_pos h2]
 rw [if_neg h2]
 obtain ⟨n,e,hle,hP⟩:=ZmB a0 1048576 (by omega) (by omega) b0
 rw [e,Bq]
 by_cases hn:n<0
 ·rw [if_pos hn]
 rw [if_neg hn]
 have hs:=hP (by omega)
 have ht:=ZlD a0 1048576 (by omega) (by omega) b0 n e (by omega)
 obtain ⟨n1,e1,hle1,hP1⟩:=ZlG a1 n (by omega) (by omega) b1
 rw [e1,Bq]
 by_cases hn1:n1<0
 ·rw [if_pos hn1]
 rw [if_neg hn1]
 have hs1:=hP1 (by omega)
 obtain ⟨n3,e3,hle3,hP3⟩:=ZkM a3 n1 (by omega) (by omega) b3
 rw [e3,Bq]
 by_cases hn3:n3<0
 ·rw [if_pos hn3]
 rw [if_neg hn3]
 have hs3:=hP3 (by omega)
 have ht3:=ZjS a3 n1 (by omega) (by omega) b3 n3 e3 (by omega)
 obtain ⟨n4,e4,hle4,hP4⟩:=ZlK a4 n3 (by omega) (by omega) b4
 rw [e4,Bq]
 by_cases hn4:n4<0
 ·rw [if_pos hn4]
 rw [if_neg hn4]
 have hs4:=hP4 (by omega)
 have ht4:=ZkO a4 n3 (by omega) (by omega) b4 n4 e4 (by omega)
 have hs2:=Zvv a2 (by omega)
 have hcb:=Zti a0 (by omega)
 have hcs:=ZvQ a3 (by omega)
 have hct:=ZvR a4 (by omega)
 have k2:=Zuw a2
 have hl3:a3.length≤1048576:=by have:=hs3.1;omega
 obtain ⟨r,c1,c2,c3⟩:=Zvi a0 a1 a2 a3 a4 hs hs1 (by omega) hl3
 obtain ⟨m0,hm0⟩:=ZkD a0 1 hs (by omega) (by omega)
 obtain ⟨m2,hm2⟩:=YF a2 (1+((cnt Yt a0:Nat):Int)) hs2 (by omega) (by omega)
 obtain ⟨m3,hm3⟩:=ZiW a3 (1+((cnt Yt a0:Nat):Int)+((cnt (.sl (.int .i64)) a2:Nat):Int)) hs3 (by omega) (by omega)
 obtain ⟨m4,hm4⟩:=ZjM a4 (1+((cnt Yt a0:Nat):Int)+((cnt (.sl (.int .i64)) a2:Nat):Int)+((cnt (.sl Z6) a3:Nat):Int)) hs4 (by omega) (by omega)
 obtain ⟨m5,hm5,hm6⟩:=ZuL r.1 c3
 have hr:=Zvv r.1 (by omega)
 have hneg:¬(1+((cnt Yt a0:Nat):Int)+((cnt (.sl (.int .i64)) a2:Nat):Int)+((cnt (.sl Z6) a3:Nat):Int)+((cnt Xd a4:Nat):Int))<0:=by omega
 have hneg2:¬(1+(r.1.length:Int))<0:=by omega
 simp only [ZmK _ hs,ZlM _ hs1,Y5 _ hs2,ZkS _ hs3,ZlP _ hs4,Bq,c1,c2,YN _ hr,YN _ hs2,Zmu _ hs,ZkB _ hs3,ZlA _ hs4,if_true,hm0,hm2,hm3,hm4,hm5,hm6,hneg,hneg2,if_false]
end Go.Proofs.YtclfgjepbamnlaaGreatDoor
