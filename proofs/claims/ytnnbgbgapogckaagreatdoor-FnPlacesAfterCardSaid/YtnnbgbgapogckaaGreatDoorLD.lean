/-
  Plain laws: what a place asks of its net; loads are always told.
-/
import Derived.Test.YtnnbgbgapogckaaGreatDoorLA
import Derived.Test.YtnnbgbgapogckaaGreatDoorLC
import Derived.Test.YtnnbgbgapogckaaGreatDoorLB
namespace Go.Proofs.YtnnbgbgapogckaaGreatDoor
set_option linter.unusedVariables false
set_option linter.unusedSimpArgs false
open Go Go.Sx
theorem ZFy {α τ ρ:Type} {l:List α} (I:Nat→τ→Prop) (Q:ρ→Prop) {step:τ→Option (τ ⊕ ρ)} {v:τ} (h0:I 0 v)
  (hs:∀ (k:Nat) (x:α) (v:τ),l[k]?=some x→k<l.length→I k v→∃ v',step v=some (.inl v')∧I (k+1) v')
  (hx:∀ v,I l.length v→∃ r,step v=some (.inr r)∧Q r):∃ r,ZA step v=some r∧Q r :=
 ZaD l.length I Q h0 (fun k v hk hI=>.inl (hs k l[k] v (List.getElem?_eq_getElem hk) hk hI)) hx
theorem ZFx {α:Type} {l:List α} {i:Int} (h0:0≤i) (h1:i<(l.length:Int)):∃ x,atI l i=some x∧x∈l:=by
 obtain ⟨x,h2,h3⟩:=Zbn h0 h1
 exact ⟨x,h2,List.mem_of_getElem? h3⟩
theorem ZFv {d:Zp} {net y:Int} (h:y∈sinks d net):0≤y∧y<((places d).length:Int):=by
 obtain ⟨k,x,hk,hy⟩:=Zug.1 h
 have:=(List.getElem?_eq_some_iff.1 hk).1
 unfold Zg9 at hy
 split at hy
 ·split at hy
  ·cases hy
  ·simp only [List.mem_singleton] at hy;omega
 ·cases hy
/-
  Plain laws: the place that drives a net.
-/
theorem ZIa {α:Type} {p:α→Bool} {l:List α} {k:Nat} {x:α} (hx:l[k]?=some x) (hp:p x=true) (hf:∀ (j:Nat) (y:α),j<k→l[j]?=some y→p y=false):Zrm p l=(k:Int):=by
 have hk:=(List.getElem?_eq_some_iff.1 hx)
 have:l.findIdx? p=some k:=by
  rw [List.findIdx?_eq_some_iff_getElem]
  refine ⟨hk.1,by rw [hk.2];exact hp,fun j hj=>?_⟩
  have:=hf j (l[j]'(by have:=hk.1;omega)) hj (List.getElem?_eq_getElem _)
  simp [this]
 unfold Zrm
 rw [this]
theorem ZH7 (d:Zp) (n:Int) (h:Few d):ZHn d n=some (Zrm (fun x:Pl=>decide (x.2.2.1=n)&&x.2.2.2.1) (places d)):=by
 have hpl:=Zck h
 unfold ZHn
 rw [JF d h,Bq]
 refine Zru (out:=fun i=>i) (show Len (places d) by show List.length _≤_;omega) (fun k x hx=>?_) ?_
 ·have hk:=(List.getElem?_eq_some_iff.1 hx).1
  simp only [ZGY,show (k:Int)<((places d).length:Int) from by omega,if_true,VU,hx,Bq,Bool.and_eq_true,decide_eq_true_eq]
  split
  ·rename_i e1
   split
   ·rename_i e2;rw [if_pos ⟨e1,e2⟩]
   ·rename_i e2;rw [if_neg (fun q=>e2 q.2)]
  ·rename_i e1;rw [if_neg (fun q=>e1 q.1)]
 ·simp only [ZGY,Int.lt_irrefl,if_false]
theorem ZIN {i:Nat} {x:Zz} {a:ZaF} {d:Zp} (hl:Zyz a) (h:Zvs a d x) (hsm:(Zz.Zbh x).length≤1048576):((ZeJ i x).filter (fun y=>y.2.2.2.1)).map (fun y=>y.2.2.1)=[ZpZ x]:=by
 obtain ⟨_,⟨c,hc,hn⟩,_⟩:=h
 have h2:2≤(QG.ZoY c).length:=(hl.2.1 c (List.mem_of_getElem? hc)).2.1.1
 unfold ZeJ ZpZ
 rw [ZAd hsm (by omega)]
 generalize hN:Zz.Zbh x=l
 rw [hN] at hn
 have hne:l.length≠0:=by omega
 have gen:∀ (l:List Int) (m n:Nat),m+l.length=n+1→l.length≠0→((cat (fun j n'=>[((i:Int),(j:Int),n',decide ((j:Int)=((n:Nat):Int)),())]) m l).filter (fun y:Pl=>y.2.2.2.1)).map (fun y=>y.2.2.1)=[l.getLastD 0]:=by
  intro l
  induction l with
  | nil=>intro m n _ h0;simp at h0
  | cons y r ih =>
   intro m n hm _
   by_cases hr:r=[]
   ·subst hr
    simp only [List.length_cons,List.length_nil] at hm
    have:(m:Int)=(n:Int):=by omega
    simp [cat,this]
   ·have hrl:r.length≠0:=fun e=>hr (List.eq_nil_of_length_eq_zero e)
    simp only [List.length_cons] at hm
    have hmn:¬(m:Int)=(n:Int):=by omega
    have:=ih (m+1) n (by omega) hrl
    simp only [cat,List.cons_append,List.nil_append]
    rw [List.filter_cons_of_neg (by simp [hmn]),this]
    cases r with
    | nil=>exact absurd rfl hr
    | cons z q=>simp [List.getLastD_cons]
 exact gen l 0 (l.length-1) (by omega) hne
theorem ZIO (j:Nat) (p:Zah):((ZdA j p).filter (fun y=>y.2.2.2.1)).map (fun y=>y.2.2.1)=if Zah.Dir p=1 then [Zah.Net p] else []:=by
 unfold ZdA
 by_cases h:Zah.Dir p=1
 ·simp [h]
 ·simp [h]
theorem ZI4 {a:ZaF} {d:Zp} (h:Zqm a d) (hsm:sm ZdN d):((places d).filter (fun y=>y.2.2.2.1)).map (fun y=>y.2.2.1)=Zxg d:=by
 unfold places Zxg
 rw [List.filter_append,List.map_append]
 congr 1
 ·have:∀ (l:List Zz) (m:Nat),(∀ x∈l,Zvs a d x∧(Zz.Zbh x).length≤1048576)→((cat ZeJ m l).filter (fun y=>y.2.2.2.1)).map (fun y=>y.2.2.1)=l.map ZpZ:=by
   intro l
   induction l with
   | nil=>intro m _;rfl
   | cons x r ih =>
    intro m hl
    have hx:=hl x (by simp)
    simp only [cat,List.filter_append,List.map_append,List.map_cons]
    rw [ZIN h.1 hx.1 hx.2,ih (m+1) (fun y hy=>hl y (by simp [hy]))]
    rfl
  exact this _ 0 (fun x hx=>⟨h.2.2.1 x hx,Zo9 (ZuV (Zy3 (Zrk hsm).1 hx)).2⟩)
 ·have:∀ (l:List Zah) (m:Nat),((cat ZdA m l).filter (fun y=>y.2.2.2.1)).map (fun y=>y.2.2.1)=(l.filter (fun p=>decide (Zah.Dir p=1))).map Zah.Net:=by
   intro l
   induction l with
   | nil=>intro m;rfl
   | cons p r ih =>
    intro m
    simp only [cat,List.filter_append,List.map_append]
    rw [ZIO,ih (m+1)]
    by_cases hd:Zah.Dir p=1
    ·simp [hd]
    ·simp [hd]
  exact this _ 0
theorem ZIo {α:Type} {p:α→Bool} {l:List α} {i j:Nat} {a b:α} (hij:i<j) (ha:l[i]?=some a) (hb:l[j]?=some b) (pa:p a=true) (pb:p b=true):2≤l.countP p:=by
 have e:l.countP p=(l.take j).countP p+(l.drop j).countP p:=by rw [←List.countP_append,List.take_append_drop]
 have h1:0<(l.take j).countP p:=List.countP_pos_iff.2 ⟨a,List.mem_iff_getElem?.2 ⟨i,by rw [List.getElem?_take,if_pos hij];exact ha⟩,pa⟩
 have h2:0<(l.drop j).countP p:=List.countP_pos_iff.2 ⟨b,List.mem_iff_getElem?.2 ⟨0,by rw [List.getElem?_drop];exact hb⟩,pb⟩
 omega
def ZIY (n:Int) (x:Pl):Bool:=decide (x.2.2.1=n)&&x.2.2.2.1
def ZHV (d:Zp) (n:Int):Int:=Zrm (ZIY n) (places d)
theorem ZJB {a:ZaF} {d:Zp} (h:Zqm a d) (hsm:sm ZdN d) {v:Nat} (hv:v<(Zp.Zbh d).length):(places d).countP (ZIY (v:Int))=1:=by
 have h1:=h.2.2.2.2 _ (List.mem_of_getElem? (Zvf (s:=Zxg d) hv))
 rw [←ZI4 h hsm,List.countP_map,List.countP_filter] at h1
 have e:(places d).countP (ZIY (v:Int))=(places d).countP (fun y=>((fun x=>decide (x=(v:Int)))∘fun y:Pl=>y.2.2.1) y&&y.2.2.2.1):=rfl
 rw [e]
 omega
theorem ZIZ {a:ZaF} {d:Zp} (h:Zqm a d) (hsm:sm ZdN d) {v:Nat} (hv:v<(Zp.Zbh d).length) :
  ∃ (q:Nat) (y:Pl),(places d)[q]?=some y∧ZIY (v:Int) y=true∧ZHV d (v:Int)=(q:Int)∧∀ (p:Nat) (z:Pl),(places d)[p]?=some z→ZIY (v:Int) z=true→p=q:=by
 have hc:=ZJB h hsm hv
 obtain ⟨y,hy,hp⟩:=List.countP_pos_iff.1 (show 0<(places d).countP (ZIY (v:Int)) by omega)
 obtain ⟨q,hq⟩:=List.mem_iff_getElem?.1 hy
 have uniq:∀ (p:Nat) (z:Pl),(places d)[p]?=some z→ZIY (v:Int) z=true→p=q:=by
  intro p z hz hpz
  rcases Nat.lt_trichotomy p q with hlt | he | hlt
  ·have:=ZIo hlt hz hq hpz hp;omega
  ·exact he
  ·have:=ZIo hlt hq hz hp hpz;omega
 refine ⟨q,y,hq,hp,ZIa hq hp (fun j z hj hz=>?_),uniq⟩
 cases hb:ZIY (v:Int) z
 ·rfl
 ·have:=uniq j z hz hb;omega
/-
  Plain laws: the view is always made.
-/
/-
  Plain laws: links of arcs.
-/
def ZG7 (f t a b kind ix:Int):Ze4:=(2*f+a,2*t+b,kind,ix,())
def trs (a:ZfN):List (Int×Int×Unit) :=
 if ZfN.Kind a=2 then [(0,0,()),(0,1,())] else if ZfN.Kind a=3 then [(1,0,()),(1,1,())] else
  if ZfN.Kind a=1 then (if ZfN.ZoE a=1 then [(0,0,()),(1,1,())] else if ZfN.ZoE a=2 then [(0,1,()),(1,0,())] else [(0,0,()),(0,1,()),(1,0,()),(1,1,())]) else []
theorem ZIn (a:ZfN):ZGM a=some (trs a):=by
 unfold ZGM trs
 repeat' split
 all_goals rfl
def ZIi (a:ZfN) (f t ix:Int):List Ze4:=(trs a).map (fun p=>ZG7 f t p.1 p.2.1 1 ix)
theorem ZIU (l:List Ze4) (f t a b kind ix:Int) (hl:l.length≤1048576) (hf:0≤f∧f≤1048576) (ht:0≤t∧t≤1048576) (ha:0≤a∧a≤1) (hb:0≤b∧b≤1) :
  ZGR l f t a b kind ix=some (l++[ZG7 f t a b kind ix]):=by
 unfold ZGR ZG7
 rw [ZB (by simp;omega),XD (n:=2*f) (by omega) (by omega),XD (n:=2*t) (by omega) (by omega),XD (n:=2*f+a) (by omega) (by omega),XD (n:=2*t+b) (by omega) (by omega)]
def ZKd (arc:ZfN) (a b:Int):Bool :=
 if ZfN.Kind arc=1 then (if ZfN.ZoE arc=3 then true else (decide (ZfN.ZoE arc=1) == decide (a=b))) else if ZfN.Kind arc=2 then decide (a=0) else if ZfN.Kind arc=3 then decide (a=1) else false
def ZH6 (arc:ZfN) (f t ix a b:Int):List Ze4:=if ZKd arc a b=true then [ZG7 f t a b 1 ix] else []
theorem ZIV (arc:ZfN) (f t ix a b:Int) (l:List Ze4) (hl:l.length≤1048576) (hf:0≤f∧f≤1048576) (ht:0≤t∧t≤1048576) (ha:0≤a∧a≤1) (hb:0≤b∧b≤1) :
  ZGP arc f t ix a l b=some (.inl (l++ZH6 arc f t ix a b,b+1,())):=by
 unfold ZGP ZH6 ZKd
 rw [if_pos (by omega),ZIU l f t a b 1 ix hl hf ht ha hb,XD (n:=b+1) (by omega) (by omega)]
 simp only [Bq]
 by_cases k1:ZfN.Kind arc=1
 ·simp only [k1,if_true]
  by_cases s3:ZfN.ZoE arc=3
  ·simp only [s3,if_true]
  ·simp only [s3,if_false]
   split
   ·rfl
   ·rw [List.append_nil]
 by_cases k2:ZfN.Kind arc=2
 ·simp only [k2,if_true,Int.reduceEq,if_false,decide_eq_true_eq]
  split
  ·rfl
  ·rw [List.append_nil]
 by_cases k3:ZfN.Kind arc=3
 ·simp only [k3,if_true,Int.reduceEq,if_false,decide_eq_true_eq]
  split
  ·rfl
  ·rw [List.append_nil]
 ·simp only [k1,k2,k3,if_false,Bool.false_eq_true,List.append_nil]
theorem ZId (arc:ZfN) (f t ix a b:Int):(ZH6 arc f t ix a b).length≤1:=by
 unfold ZH6;split<;>simp
theorem ZIz (arc:ZfN) (f t ix a:Int) (l:List Ze4) (hl:l.length≤1048000) (hf:0≤f∧f≤1048576) (ht:0≤t∧t≤1048576) (ha:0≤a∧a≤1) :
  ZA (fun v=>ZGP arc f t ix a v.1 v.2.1) (l,(0:Int),())=some (.inl (l++ZH6 arc f t ix a 0++ZH6 arc f t ix a 1,a+1,())):=by
 have h1:=ZId arc f t ix a 0
 have h2:=ZId arc f t ix a 1
 rw [ZgA (v':=(l++ZH6 arc f t ix a 0,(0:Int)+1,())) (ZIV arc f t ix a 0 l (by omega) hf ht ha (by omega)),
  ZgA (v':=(l++ZH6 arc f t ix a 0++ZH6 arc f t ix a 1,(0:Int)+1+1,())) (ZIV arc f t ix a (0+1) _ (by rw [List.length_append];omega) hf ht ha (by omega)),Zct]
 simp only [ZGP]
 rw [if_neg (by omega),XD (n:=a+1) (by omega) (by omega)]
theorem ZJU (arc:ZfN) (f t ix:Int) (hs:ZfN.Kind arc=1→1≤ZfN.ZoE arc∧ZfN.ZoE arc≤3):ZH6 arc f t ix 0 0++ZH6 arc f t ix 0 1++(ZH6 arc f t ix 1 0++ZH6 arc f t ix 1 1)=ZIi arc f t ix:=by
 unfold ZH6 ZKd ZIi trs
 by_cases k1:ZfN.Kind arc=1
 ·have h:=hs k1
  by_cases s1:ZfN.ZoE arc=1
  ·simp [k1,s1]
  by_cases s2:ZfN.ZoE arc=2
  ·simp [k1,s2]
  ·have s3:ZfN.ZoE arc=3:=by omega
   simp [k1,s3]
 by_cases k2:ZfN.Kind arc=2
 ·simp [k2]
 by_cases k3:ZfN.Kind arc=3
 ·simp [k3]
 ·simp [k1,k2,k3]
theorem ZIm (l:List Ze4) (arc:ZfN) (f t ix:Int) (hl:l.length≤1047000) (hf:0≤f∧f≤1048576) (ht:0≤t∧t≤1048576) (hs:ZfN.Kind arc=1→1≤ZfN.ZoE arc∧ZfN.ZoE arc≤3) :
  ZHH l arc f t ix=some (l++ZIi arc f t ix):=by
 have h1:=ZId arc f t ix 0 0
 have h2:=ZId arc f t ix 0 1
 unfold ZHH
 have s0:ZGD arc f t ix l 0=some (.inl (l++ZH6 arc f t ix 0 0++ZH6 arc f t ix 0 1,0+1,())):=by
  unfold ZGD
  rw [if_pos (by omega),ZIz arc f t ix 0 l (by omega) hf ht (by omega)]
 have s1:ZGD arc f t ix (l++ZH6 arc f t ix 0 0++ZH6 arc f t ix 0 1) 1=some (.inl (l++ZH6 arc f t ix 0 0++ZH6 arc f t ix 0 1++ZH6 arc f t ix 1 0++ZH6 arc f t ix 1 1,1+1,())):=by
  unfold ZGD
  rw [if_pos (by omega),ZIz arc f t ix 1 _ (by simp only [List.length_append];omega) hf ht (by omega)]
 rw [ZgA (v':=(l++ZH6 arc f t ix 0 0++ZH6 arc f t ix 0 1,(1:Int),())) s0,ZgA (v':=(l++ZH6 arc f t ix 0 0++ZH6 arc f t ix 0 1++ZH6 arc f t ix 1 0++ZH6 arc f t ix 1 1,(2:Int),())) s1,Zct (r:=l++ZIi arc f t ix)]
 simp only [ZGD]
 rw [if_neg (by omega),←ZJU arc f t ix hs]
 simp only [List.append_assoc]
def ZI2 (c:QG) (f:Int):List Ze4:=cat (fun i a=>ZIi a (f+ZfN.From a) (f+ZfN.To a) (i:Int)) 0 (QG.ZoW c)
theorem ZIy (a:ZfN):(trs a).length≤4:=by
 unfold trs;repeat' split
 all_goals simp
theorem ZHO {b:Zv} (h:ZqJ b) {x:Zz} (hx:x∈Zp.Instances (Zv.Design b)) (f:Int) (hf:0≤f∧f≤1000000) :
  ∃ c,(ZaF.Cells (Zv.Library b))[(Zz.Cell x).toNat]?=some c∧ZvM c∧ZGN b x f=some (ZI2 c f):=by
 obtain ⟨hc,⟨c,hc1,hc2⟩,_⟩:=h.ok.1.2.2.1 x hx
 have hC:=h.ok.1.1.2.1 c (List.mem_of_getElem? hc1)
 have hA:=hC.2.2.1.1
 refine ⟨c,hc1,hC,?_⟩
 unfold ZGN
 rw [Zkf hc.1 hc1,Bq]
 refine ZaG (l:=QG.ZoW c) (fun i a=>ZIi a (f+ZfN.From a) (f+ZfN.To a) (i:Int)) [] (fun k a ha hk=>?_) ?_
 ·have hao:=(hC.2.2.1.2 k a ha).1
  have hpl:=hC.2.1.2.1
  have hl:=Zb1 (f:=fun i a=>ZIi a (f+ZfN.From a) (f+ZfN.To a) (i:Int)) (c:=4) (l:=(QG.ZoW c).take k) (m:=0) (fun i a _=>by simp only [ZIi,List.length_map];exact ZIy a)
  rw [List.length_take] at hl
  simp only [List.nil_append,ZGv,show (k:Int)<((QG.ZoW c).length:Int) from by omega,if_true,VU,ha,ZIn,Bq]
  generalize cat (fun i a=>ZIi a (f+ZfN.From a) (f+ZfN.To a) (i:Int)) 0 ((QG.ZoW c).take k)=acc at hl
  have ht4:=ZIy a
  have htr:∀ p∈trs a,(0≤p.1∧p.1≤1)∧(0≤p.2.1∧p.2.1≤1):=by
   intro p hp
   unfold trs at hp
   repeat' split at hp
   all_goals (simp only [List.mem_cons,List.not_mem_nil,or_false] at hp)
   all_goals first | (rcases hp with rfl | rfl | rfl | rfl<;>simp) | (rcases hp with rfl | rfl<;>simp) | exact hp.elim
  have h1:=hao.1
  have h2:=hao.2.1
  refine (ZaG (l:=trs a) (ρ:=(List Ze4×Int×Unit) ⊕ List Ze4) (fun _ p=>[ZG7 (f+ZfN.From a) (f+ZfN.To a) p.1 p.2.1 1 (k:Int)]) acc (good:=.inl (acc++ZIi a (f+ZfN.From a) (f+ZfN.To a) (k:Int),((k+1:Nat):Int),())) (fun j p hp hj=>?_) ?_)
  ·have hp2:=htr p (List.mem_of_getElem? hp)
   have hl2:=Zb1 (f:=fun (_:Nat) (p:Int×Int×Unit)=>[ZG7 (f+ZfN.From a) (f+ZfN.To a) p.1 p.2.1 1 (k:Int)]) (c:=1) (l:=(trs a).take j) (m:=0) (fun _ _ _=>by simp)
   rw [List.length_take] at hl2
   simp only [ZGu,show (j:Int)<((trs a).length:Int) from by omega,if_true,VU,hp,Bq]
   rw [ZB (by rw [List.length_append,List.length_singleton];omega),Zkd (by omega),XD (n:=f+ZfN.From a) (by omega) (by omega),XD (n:=f+ZfN.To a) (by omega) (by omega),XD (n:=2*(f+ZfN.From a)) (by omega) (by omega),XD (n:=2*(f+ZfN.To a)) (by omega) (by omega),XD (n:=2*(f+ZfN.From a)+p.1) (by omega) (by omega),XD (n:=2*(f+ZfN.To a)+p.2.1) (by omega) (by omega)]
   rfl
  ·have e:cat (fun (_:Nat) (p:Int×Int×Unit)=>[ZG7 (f+ZfN.From a) (f+ZfN.To a) p.1 p.2.1 1 (k:Int)]) 0 (trs a)=ZIi a (f+ZfN.From a) (f+ZfN.To a) (k:Int):=by
    unfold ZIi
    generalize trs a=l
    have:∀ (m:Nat),cat (fun (_:Nat) (p:Int×Int×Unit)=>[ZG7 (f+ZfN.From a) (f+ZfN.To a) p.1 p.2.1 1 (k:Int)]) m l=l.map (fun p=>ZG7 (f+ZfN.From a) (f+ZfN.To a) p.1 p.2.1 1 (k:Int)):=by
     induction l with
     | nil=>intro m;rfl
     | cons p r ih=>intro m;simp [cat,ih]
    exact this 0
   simp only [ZGu,Int.lt_irrefl,if_false,e]
   rw [Zkd (by omega)]
 ·simp only [List.nil_append,ZGv,Int.lt_irrefl,if_false];rfl
/-
  Plain laws: where a pin's place is; the links of all instances.
-/
theorem ZIg (d:Zp) (i j:Int) (h:Few d):Zs1 d i j=some (Zrm (fun x:Pl=>decide (x.1=i)&&decide (x.2.1=j)) (places d)):=by
 have hpl:=Zck h
 unfold Zs1
 rw [JF d h,Bq]
 refine Zru (out:=fun i=>i) (show Len (places d) by show List.length _≤_;omega) (fun k x hx=>?_) ?_
 ·have hk:=(List.getElem?_eq_some_iff.1 hx).1
  simp only [Ztj,show (k:Int)<((places d).length:Int) from by omega,if_true,VU,hx,Bq,Bool.and_eq_true,decide_eq_true_eq]
  split
  ·rename_i e1
   split
   ·rename_i e2;rw [if_pos ⟨e1,e2⟩]
   ·rename_i e2;rw [if_neg (fun q=>e2 q.2)]
  ·rename_i e1;rw [if_neg (fun q=>e1 q.1)]
 ·simp only [Ztj,Int.lt_irrefl,if_false]
theorem ZIL {α β:Type} {g:Nat→α→β}:∀ {l:List α} {m j:Nat},(cat (fun j n=>[g j n]) m l)[j]?=(l[j]?).map (g (m+j))
 | [],m,j=>by simp [cat]
 | x::r,m,0=>by simp [cat]
 | x::r,m,j+1=>by
  simp only [cat,List.cons_append,List.nil_append,List.getElem?_cons_succ]
  rw [ZIL (l:=r) (m:=m+1) (j:=j),show m+1+j=m+(j+1) by omega]
theorem ZH0 {α β:Type} {g:Nat→α→β}:∀ {l:List α} {m:Nat},(cat (fun j n=>[g j n]) m l).length=l.length
 | [],m=>rfl
 | x::r,m=>by simp [cat,ZH0 (l:=r)]
theorem ZHF (i:Nat) (x:Zz):(ZeJ i x).length=(Zz.Zbh x).length:=by unfold ZeJ;rw [ZH0]
def fst (d:Zp) (i:Nat):Nat:=(cat ZeJ 0 ((Zp.Instances d).take i)).length
theorem ZIb {d:Zp} {i:Nat} {x:Zz} (hx:(Zp.Instances d)[i]?=some x):∃ B,places d=cat ZeJ 0 ((Zp.Instances d).take i)++(ZeJ i x++B):=by
 have hi:=List.getElem?_eq_some_iff.1 hx
 have e:Zp.Instances d=(Zp.Instances d).take i++(x::(Zp.Instances d).drop (i+1)):=by
  rw [←hi.2,←List.drop_eq_getElem_cons hi.1,List.take_append_drop]
 refine ⟨cat ZeJ (i+1) ((Zp.Instances d).drop (i+1))++cat ZdA 0 (Zp.Vk d),?_⟩
 unfold places
 conv=>lhs;rw [e]
 rw [ZeE]
 have hl:((Zp.Instances d).take i).length=i:=by rw [List.length_take];have:=hi.1;omega
 rw [hl,Nat.zero_add]
 simp only [cat,List.append_assoc]
theorem ZI0 {d:Zp} (h:Few d) {i j:Nat} {x:Zz} (hx:(Zp.Instances d)[i]?=some x) (hj:j<(Zz.Zbh x).length) :
  Zs1 d (i:Int) (j:Int)=some ((fst d i:Int)+(j:Int)):=by
 rw [ZIg d _ _ h]
 obtain ⟨B,hB⟩:=ZIb hx
 congr 1
 have hn:(Zz.Zbh x)[j]?=some (Zz.Zbh x)[j]:=List.getElem?_eq_getElem hj
 have hat:∀ (q:Nat) (y:Pl),(ZeJ i x)[q]?=some y→y.1=(i:Int)∧y.2.1=(q:Int):=by
  intro q y hy
  unfold ZeJ at hy
  rw [ZIL,Nat.zero_add] at hy
  simp only [Option.map_eq_some_iff] at hy
  obtain ⟨n,_,rfl⟩:=hy
  exact ⟨rfl,rfl⟩
 have hex:∃ y,(ZeJ i x)[j]?=some y:=⟨_,List.getElem?_eq_getElem (by rw [ZHF];exact hj)⟩
 obtain ⟨y,hy⟩:=hex
 have hy2:=hat j y hy
 have:=ZIa (p:=fun x:Pl=>decide (x.1=(i:Int))&&decide (x.2.1=(j:Int))) (l:=places d) (k:=fst d i+j) (x:=y)
  (by
   rw [hB,List.getElem?_append_right (by unfold fst;omega),show fst d i+j-(cat ZeJ 0 ((Zp.Instances d).take i)).length=j by unfold fst;omega,List.getElem?_append_left (by rw [ZHF];exact hj)]
   exact hy)
  (by simp [hy2.1,hy2.2])
  (fun q z hq hz=>by
   rw [hB] at hz
   by_cases hqA:q<(cat ZeJ 0 ((Zp.Instances d).take i)).length
   ·rw [List.getElem?_append_left hqA] at hz
    obtain ⟨i',x',hi',hz'⟩:=Zug.1 (List.mem_of_getElem? hz)
    have hlt:i'<i:=by
     have:=(List.getElem?_eq_some_iff.1 hi').1
     rw [List.length_take] at this
     omega
    rw [Nat.zero_add] at hz'
    have:z.1=(i':Int):=by
     unfold ZeJ at hz'
     obtain ⟨j',n,_,hn'⟩:=Zug.1 hz'
     simp only [List.mem_singleton] at hn'
     rw [hn']
    have hne:¬z.1=(i:Int):=by omega
    simp [hne]
   ·have hq2:q-(cat ZeJ 0 ((Zp.Instances d).take i)).length<j:=by unfold fst at hq;omega
    rw [List.getElem?_append_right (by omega),List.getElem?_append_left (by rw [ZHF];omega)] at hz
    have:=(hat _ _ hz).2
    have hne:¬z.2.1=(j:Int):=by omega
    simp [hne])
 rw [this]
 omega
def ZIc (b:Zv) (i:Nat) (x:Zz):List Ze4:=match (ZaF.Cells (Zv.Library b))[(Zz.Cell x).toNat]? with
 | some c=>ZI2 c (fst (Zv.Design b) i:Int)
 | none=>[]
def ZH4 (b:Zv):List Ze4:=cat (ZIc b) 0 (Zp.Instances (Zv.Design b))
theorem ZIA (c:QG) (f:Int) (h:(QG.ZoW c).length≤8):(ZI2 c f).length≤32:=by
 have:=Zb1 (f:=fun i a=>ZIi a (f+ZfN.From a) (f+ZfN.To a) (i:Int)) (c:=4) (l:=QG.ZoW c) (m:=0) (fun i a _=>by simp only [ZIi,List.length_map];exact ZIy a)
 unfold ZI2
 omega
theorem ZJ7 {d:Zp} (h:Few d) (i:Nat):fst d i≤70:=Zap h i
theorem ZJN {b:Zv} (h:ZqJ b) (i:Nat) (x:Zz) (hx:x∈Zp.Instances (Zv.Design b)):(ZIc b i x).length≤32:=by
 obtain ⟨c,h1,h2,_⟩:=ZHO h hx 0 (by omega)
 unfold ZIc
 rw [h1]
 exact ZIA c _ h2.2.2.1.1
theorem ZHS {b:Zv} (h:ZqJ b) (k:Nat):(cat (ZIc b) 0 ((Zp.Instances (Zv.Design b)).take k)).length≤448:=by
 have h1:=h.ok.1.few.insts
 have:=Zb1 (f:=ZIc b) (c:=32) (l:=(Zp.Instances (Zv.Design b)).take k) (m:=0) (fun i x hx=>ZJN h i x (List.mem_of_mem_take hx))
 rw [List.length_take] at this
 omega
/-
  Plain laws: the links of all instances, by the reference and by the program; drivers.
-/
theorem ZIJ {b:Zv} (h:ZqJ b) {i:Nat} {x:Zz} (hx:(Zp.Instances (Zv.Design b))[i]?=some x) {c:QG} (hc:(ZaF.Cells (Zv.Library b))[(Zz.Cell x).toNat]?=some c) (acc:List Ze4) (ha:acc.length≤100000) :
  ZA (fun v=>ZGQ b (i:Int) c v.1 v.2.1) (acc,(0:Int),())=some (.inl (acc++ZI2 c (fst (Zv.Design b) i:Int),((i+1:Nat):Int),())):=by
 have hf:=h.ok.1.few
 have hi:=(List.getElem?_eq_some_iff.1 hx).1
 have h14:=hf.insts
 have hxm:=List.mem_of_getElem? hx
 obtain ⟨_,⟨c',hc1,hc2⟩,_⟩:=h.ok.1.2.2.1 x hxm
 rw [hc] at hc1;injection hc1 with hc1;subst hc1
 have hC:=h.ok.1.1.2.1 c (List.mem_of_getElem? hc)
 have hA:=hC.2.2.1.1
 have hpn:=hC.2.1.2.1
 have h70:=ZJ7 hf i
 refine ZaG (l:=QG.ZoW c) (fun k a=>ZIi a ((fst (Zv.Design b) i:Int)+ZfN.From a) ((fst (Zv.Design b) i:Int)+ZfN.To a) (k:Int)) acc (fun k a hka hk=>?_) ?_
 ·have hao:=(hC.2.2.1.2 k a hka).1
  have hl:=Zb1 (f:=fun k a=>ZIi a ((fst (Zv.Design b) i:Int)+ZfN.From a) ((fst (Zv.Design b) i:Int)+ZfN.To a) (k:Int)) (c:=4) (l:=(QG.ZoW c).take k) (m:=0) (fun i a _=>by simp only [ZIi,List.length_map];exact ZIy a)
  rw [List.length_take] at hl
  simp only [ZGQ,show (k:Int)<((QG.ZoW c).length:Int) from by omega,if_true,VU,hka,Bq]
  generalize cat (fun k a=>ZIi a ((fst (Zv.Design b) i:Int)+ZfN.From a) ((fst (Zv.Design b) i:Int)+ZfN.To a) (k:Int)) 0 ((QG.ZoW c).take k)=acc2 at hl
  have h1:=hao.1
  have h2:=hao.2.1
  by_cases hk3:ZfN.Kind a≤3
  ·have e1:=ZI0 hf hx (j:=(ZfN.From a).toNat) (by omega)
   have e2:=ZI0 hf hx (j:=(ZfN.To a).toNat) (by omega)
   rw [show ((ZfN.From a).toNat:Int)=ZfN.From a by omega] at e1
   rw [show ((ZfN.To a).toNat:Int)=ZfN.To a by omega] at e2
   rw [if_pos hk3,e1,Bq,e2,Bq,ZIm _ a _ _ _ (by rw [List.length_append];omega) (by omega) (by omega) (fun hk1=>by
    rcases hao.2.2 with hh | hh | hh
    ·exact hh.2.2.2.1
    ·have:=hh.1;omega
    ·have:=hh.1;omega),Bq,Zkd (by omega)]
  ·rw [if_neg hk3,Zkd (by omega)]
   have e:ZIi a ((fst (Zv.Design b) i:Int)+ZfN.From a) ((fst (Zv.Design b) i:Int)+ZfN.To a) (k:Int)=[]:=by
    unfold ZIi trs
    rw [if_neg (by omega),if_neg (by omega),if_neg (by omega)]
    rfl
   rw [e,List.append_nil]
 ·simp only [ZGQ,Int.lt_irrefl,if_false]
  rw [Zkd (by omega)]
  rfl
/-
  Plain laws: the view's links are the reference's.
-/
def ZJS (d:Zp) (n:Int):List Ze4:=cat (fun j s=>[ZG7 (ZHV d n) s 0 0 2 (j:Int),ZG7 (ZHV d n) s 1 1 2 (j:Int)]) 0 (sinks d n)
theorem ZJX {d:Zp} (h:Few d) (n:Int):(ZJS d n).length≤156:=by
 have h1:=Zb1 (f:=fun j s=>[ZG7 (ZHV d n) s 0 0 2 (j:Int),ZG7 (ZHV d n) s 1 1 2 (j:Int)]) (c:=2) (l:=sinks d n) (m:=0) (fun _ _ _=>by simp)
 have h2:=Zgm n (places d) 0
 have h3:=Zck h
 unfold ZJS
 have:(sinks d n).length≤78:=by unfold sinks;omega
 omega
theorem ZIB {α β γ:Type} (f:Nat→List γ):∀ (l:List α) (r:List β) (m:Nat),l.length=r.length→cat (fun k _=>f k) m l=cat (fun k _=>f k) m r
 | [],[],_,_=>rfl
 | [],_::_,_,h=>by simp at h
 | _::_,[],_,h=>by simp at h
 | _::l,_::r,m,h=>by simp only [cat];rw [ZIB f l r (m+1) (by simpa using h)]
def ZI1 (b:Zv):List Ze4:=cat (fun v _=>ZJS (Zv.Design b) (v:Int)) 0 (Zv.ZlA b)
def ZGm (b:Zv):List Ze4:=ZH4 b++ZI1 b
theorem ZHZ {b:Zv} (h:ZqJ b) {α:Type} (l:List α):(cat (fun v _=>ZJS (Zv.Design b) (v:Int)) 0 l).length≤156*l.length :=
 Zb1 (f:=fun v _=>ZJS (Zv.Design b) (v:Int)) (c:=156) (l:=l) (m:=0) (fun v _ _=>ZJX h.ok.1.few _)
theorem ZHT {b:Zv} (h:ZqJ b):(ZH4 b).length≤448:=by
 have:=ZHS h (Zp.Instances (Zv.Design b)).length
 rw [List.take_length] at this
 exact this
theorem ZIX {b:Zv} (h:ZqJ b) {v:Nat} (hv:v<(Zp.Zbh (Zv.Design b)).length):0≤ZHV (Zv.Design b) (v:Int)∧ZHV (Zv.Design b) (v:Int)<((places (Zv.Design b)).length:Int):=by
 obtain ⟨q,y,hq,_,e,_⟩:=ZIZ h.ok.1 (Zrd h.sm).2.1 hv
 have:=(List.getElem?_eq_some_iff.1 hq).1
 rw [e];omega
theorem ZHK {b:Zv} (h:ZqJ b):ZG1 b=some (ZGm b):=by
 have hf:=h.ok.1.few
 have h14:=hf.insts
 have h30:=h.ok.1.2.1.2.1
 have hpl:=Zck hf
 unfold ZG1
 refine ZaG (l:=Zp.Instances (Zv.Design b)) (ZIc b) [] (fun i x hx hi=>?_) ?_
 ·have hxm:=List.mem_of_getElem? hx
  obtain ⟨hc,⟨c,hc1,hc2⟩,_⟩:=h.ok.1.2.2.1 x hxm
  have hl:=ZHS h i
  simp only [List.nil_append,ZHa,show (i:Int)<((Zp.Instances (Zv.Design b)).length:Int) from by omega,if_true,VU,hx,Bq,Zkf hc.1 hc1]
  rw [ZIJ h hx hc1 _ (by omega)]
  have e:ZIc b i x=ZI2 c (fst (Zv.Design b) i:Int):=by unfold ZIc;rw [hc1]
  rw [e]
 ·have hil:=ZHT h
  simp only [List.nil_append,ZHa,Int.lt_irrefl,if_false]
  refine ZaG (l:=Zp.Zbh (Zv.Design b)) (fun v _=>ZJS (Zv.Design b) (v:Int)) (ZH4 b) (ρ:=(List Ze4×Int×Unit) ⊕ List Ze4) (good:=.inr (ZGm b)) (fun v s hs hv=>?_) ?_
  ·have hdr:=ZIX h hv
   have hl:=ZHZ h ((Zp.Zbh (Zv.Design b)).take v)
   rw [List.length_take] at hl
   have e1:ZHn (Zv.Design b) (v:Int)=some (ZHV (Zv.Design b) (v:Int)):=ZH7 _ _ hf
   simp only [ZG9,show (v:Int)<((Zp.Zbh (Zv.Design b)).length:Int) from by omega,if_true,e1,Bq,ZcT _ _ hf]
   have hsl:(sinks (Zv.Design b) (v:Int)).length≤78:=by
    have:=Zgm (v:Int) (places (Zv.Design b)) 0
    unfold sinks;omega
   generalize hacc:ZH4 b++cat (fun v _=>ZJS (Zv.Design b) (v:Int)) 0 ((Zp.Zbh (Zv.Design b)).take v)=acc
   have hal:acc.length≤10000:=by rw [←hacc,List.length_append];omega
   refine ZaG (l:=sinks (Zv.Design b) (v:Int)) (fun j s=>[ZG7 (ZHV (Zv.Design b) (v:Int)) s 0 0 2 (j:Int),ZG7 (ZHV (Zv.Design b) (v:Int)) s 1 1 2 (j:Int)]) acc (fun j y hy hj=>?_) ?_
   ·have hyb:=ZFv (List.mem_of_getElem? hy)
    have hl2:=Zb1 (f:=fun j s=>[ZG7 (ZHV (Zv.Design b) (v:Int)) s 0 0 2 (j:Int),ZG7 (ZHV (Zv.Design b) (v:Int)) s 1 1 2 (j:Int)]) (c:=2) (l:=(sinks (Zv.Design b) (v:Int)).take j) (m:=0) (fun _ _ _=>by simp)
    rw [List.length_take] at hl2
    simp only [ZG8,show (j:Int)<((sinks (Zv.Design b) (v:Int)).length:Int) from by omega,if_true,VU,hy,Bq]
    rw [ZIU _ _ _ _ _ _ _ (by rw [List.length_append];omega) (by omega) (by omega) (by omega) (by omega),Bq,ZIU _ _ _ _ _ _ _ (by simp only [List.length_append,List.length_singleton];omega) (by omega) (by omega) (by omega) (by omega),Bq,Zkd (by omega)]
    simp only [List.append_assoc,List.cons_append,List.nil_append]
   ·simp only [ZG8,Int.lt_irrefl,if_false]
    rw [Zkd (by omega)];rfl
  ·simp only [ZG9,Int.lt_irrefl,if_false]
   rw [ZIB (fun v=>ZJS (Zv.Design b) (v:Int)) (Zp.Zbh (Zv.Design b)) (Zv.ZlA b) 0 h.ok.2.1.symm]
   rfl
/-
  Plain laws: the view, with its links.
-/
/-
  Plain laws: what is reached through live links, by the queue.
-/
def Live (L:List Ze4) (lv:List Bool) (a c:Int):Prop:=∃ (k:Nat) (l:Ze4),L[k]?=some l∧lv[k]?=some true∧Ze4.From l=a∧Ze4.To l=c
inductive Rch (L:List Ze4) (lv:List Bool) (S:Int→Prop):Int→Prop
 | base {a:Int}:S a→Rch L lv S a
 | step {a c:Int}:Rch L lv S a→Live L lv a c→Rch L lv S c
theorem Rch.sub {L:List Ze4} {lv:List Bool} {S T:Int→Prop} (h0:∀ a,S a→T a) (h1:∀ a c,T a→Live L lv a c→T c) {a:Int} (h:Rch L lv S a):T a:=by
 induction h with
 | base h=>exact h0 _ h
 | step _ hl ih=>exact h1 _ _ ih hl
theorem Rch.mono {L:List Ze4} {lv:List Bool} {S T:Int→Prop} (h0:∀ a,S a→T a) {a:Int} (h:Rch L lv S a):Rch L lv T a:=h.sub (fun a ha=>.base (h0 a ha)) (fun a c ha hl=>.step ha hl)
def InN (N:Nat) (L:List Ze4):Prop:=∀ l∈L,(0≤Ze4.From l∧Ze4.From l<(N:Int))∧(0≤Ze4.To l∧Ze4.To l<(N:Int))
/-
  Plain laws: what is reached through live links, by rounds; cones.
-/
def cf (l:List Bool):Nat:=l.countP (fun b=>!b)
theorem ZJ5:∀ (l:List Bool) (i:Nat),l[i]?=some false→cf (l.set i true)+1=cf l
 | [],_,h=>by simp at h
 | b::l,0,h=>by simp at h;subst h;simp [cf]
 | b::l,i+1,h=>by
  have:=ZJ5 l i (by simpa using h)
  unfold cf at this ⊢
  simp only [List.set_cons_succ,List.countP_cons]
  omega
theorem bat {l:List Bool} {i:Int} {b:Bool} (h:atI l i=some b) (h0:0≤i):l[i.toNat]?=some b:=by
 unfold atI at h
 rw [if_pos h0] at h
 exact h
theorem ZKi {l:List Bool} {i:Nat} (a:Nat) (h:l[a]?=some true):(l.set i true)[a]?=some true:=by
 rw [List.getElem?_set]
 split
 ·have:=(List.getElem?_eq_some_iff.1 h).1
  rw [if_pos (by omega)]
 ·exact h
def Closed (L:List Ze4) (lv:List Bool) (k:Nat) (s:List Bool):Prop:=∀ (j:Nat) (l:Ze4),j<k→L[j]?=some l→lv[j]?=some true→s[(Ze4.From l).toNat]?=some true→s[(Ze4.To l).toNat]?=some true
structure ZKk (N:Nat) (L:List Ze4) (lv:List Bool) (S:Int→Prop) (k:Nat) (s0:List Bool) (ch:Bool) (s:List Bool):Prop where
 len:s.length=N
 snd:∀ a:Nat,s[a]?=some true→Rch L lv S (a:Int)
 up:∀ a:Nat,s0[a]?=some true→s[a]?=some true
 still:ch=false→s=s0∧Closed L lv k s0
 less:cf s+(if ch=true then 1 else 0)≤cf s0
theorem round_eq {N:Nat} {L:List Ze4} {lv:List Bool} {S:Int→Prop} (hL:InN N L) (hLs:L.length≤6000) (hlv:lv.length=L.length) {s0:List Bool} (h0:s0.length=N) (hs0:∀ a:Nat,s0[a]?=some true→Rch L lv S (a:Int)) :
  ∃ ch s,ZA (fun v=>ZGp L lv true v.1 v.2.1 v.2.2.1) (false,(0:Int),s0,())=some (.inl (ch,s,()))∧ZKk N L lv S L.length s0 ch s:=by
 obtain ⟨r,h1,ch,s,rfl,h3⟩:=ZFy (l:=L) (ρ:=(Bool×List Bool×Unit) ⊕ List Bool) (step:=fun v=>ZGp L lv true v.1 v.2.1 v.2.2.1) (v:=(false,(0:Int),s0,()))
  (fun k v=>v.2.1=(k:Int)∧ZKk N L lv S k s0 v.1 v.2.2.1) (fun r=>∃ ch s,r=.inl (ch,s,())∧ZKk N L lv S L.length s0 ch s)
  ⟨rfl,h0,hs0,fun a h=>h,fun _=>⟨rfl,fun j l hj=>by omega⟩,by simp⟩
  (by
   rintro k l ⟨ch,i,s,⟨⟩⟩ hl hk ⟨hi,hR⟩
   simp only at hi hR
   subst hi
   have hlb:=hL l (List.mem_of_getElem? hl)
   have hsl:=hR.len
   have hlv1:lv[k]?=some lv[k]:=List.getElem?_eq_getElem (by omega)
   generalize lv[k]=bl at hlv1
   obtain ⟨x3,hx3,_⟩:=ZFx (l:=s) hlb.1.1 (by omega)
   obtain ⟨x4,hx4,_⟩:=ZFx (l:=s) hlb.2.1 (by omega)
   have hb3:=bat hx3 hlb.1.1
   have hb4:=bat hx4 hlb.2.1
   simp only [ZGp,show (k:Int)<(L.length:Int) from by omega,if_true,VU,hl,hlv1,hx3,hx4,Bq]
   have keep:(bl=true→x3=true→x4=true)→ZKk N L lv S (k+1) s0 ch s:=fun hcl=>⟨hR.len,hR.snd,hR.up,fun hch=>by
    obtain ⟨e1,e2⟩:=hR.still hch
    refine ⟨e1,fun j l' hj hl' hlv' hfr=>?_⟩
    by_cases hjk:j=k
    ·subst hjk
     rw [hl] at hl';injection hl' with hl';subst hl'
     rw [hlv1] at hlv';injection hlv' with hlv'
     subst e1
     rw [hb3] at hfr;injection hfr with hfr
     rw [hb4,hcl hlv' hfr]
    ·exact e2 j l' (by omega) hl' hlv' hfr,hR.less⟩
   by_cases hbl:bl=true
   ·subst hbl
    by_cases h3:x3=true
    ·subst h3
     by_cases h4:x4=true
     ·subst h4
      simp only [if_true]
      exact ⟨_,rfl,by simp only;rw [Zkd (by omega)],keep (fun _ _=>rfl)⟩
     ·have h4f:x4=false:=by simpa using h4
      subst h4f
      simp only [if_true,Bool.false_eq_true,if_false]
      have hcf:=ZJ5 s (Ze4.To l).toNat hb4
      have hless:=hR.less
      refine ⟨_,rfl,by simp only;rw [Zkd (by omega)],by simp [hsl],fun a ha=>?_,fun a ha=>ZKi a (hR.up a ha),fun h=>(by cases h),?_⟩
      ·simp only at ha
       rw [List.getElem?_set] at ha
       split at ha
       ·rename_i e
        rw [←e,show (((Ze4.To l).toNat:Nat):Int)=Ze4.To l by omega]
        have hfr:=hR.snd _ hb3
        rw [show (((Ze4.From l).toNat:Nat):Int)=Ze4.From l by omega] at hfr
        exact .step hfr ⟨k,l,hl,hlv1,rfl,rfl⟩
       ·exact hR.snd a ha
      ·simp only [if_true]
       have:(if ch=true then 1 else 0)≤1:=by split<;>omega
       omega
    ·have h3f:x3=false:=by simpa using h3
     subst h3f
     simp only [if_true,Bool.false_eq_true,if_false]
     exact ⟨_,rfl,by simp only;rw [Zkd (by omega)],keep (fun _ h=>by cases h)⟩
   ·have hblf:bl=false:=by simpa using hbl
    subst hblf
    simp only [if_true,Bool.false_eq_true,if_false]
    exact ⟨_,rfl,by simp only;rw [Zkd (by omega)],keep (fun h=>by cases h)⟩)
  (by
   rintro ⟨ch,i,s,⟨⟩⟩ ⟨hi,hR⟩
   simp only at hi hR
   subst hi
   simp only [ZGp,Int.lt_irrefl,if_false]
   exact ⟨_,rfl,ch,s,rfl,hR⟩)
 exact ⟨ch,s,h1,h3⟩
theorem ZH9 {N:Nat} {L:List Ze4} {lv:List Bool} (hNs:N≤1000) (hL:InN N L) (hLs:L.length≤6000) (hlv:lv.length=L.length) {node:Int} (hn:0≤node∧node<(N:Int)) :
  ∃ r,ZGK (N:Int) L lv node true=some r∧r.length=N∧∀ (a:Nat) (b:Bool),r[a]?=some b→(b=true↔Rch L lv (fun a=>a=node) (a:Int)):=by
 unfold ZGK
 obtain ⟨x,hx,_⟩:=ZFx (l:=List.replicate (Int.toNat (N:Int)) false) hn.1 (by simp;exact hn.2)
 rw [ZB (by omega),ZB (by omega),ZB (by omega),ZB (by omega),hx,Bq]
 have hnn:((node.toNat:Nat):Int)=node:=by omega
 have:=ZeX (σ:=Bool×List Bool×Unit) (ρ:=List Bool) (step:=fun v=>ZGt L lv true v.1 v.2.1)
  (fun v=>v.2.1.length=N∧(∀ a:Nat,v.2.1[a]?=some true→Rch L lv (fun a=>a=node) (a:Int))∧v.2.1[node.toNat]?=some true∧(v.1=false→Closed L lv L.length v.2.1))
  (fun v=>2*cf v.2.1+(if v.1=true then 1 else 0))
  (fun r=>r.length=N∧∀ (a:Nat) (b:Bool),r[a]?=some b→(b=true↔Rch L lv (fun a=>a=node) (a:Int)))
  (v:=(true,List.set (List.replicate (Int.toNat (N:Int)) false) (Int.toNat node) true,()))
  ⟨by simp,fun a ha=>(by
   simp only at ha
   rw [List.getElem?_set] at ha
   split at ha
   ·rename_i e;rw [←e];exact .base hnn
   ·rw [List.getElem?_replicate] at ha
    split at ha
    ·cases ha
    ·cases ha),(by simp only;rw [List.getElem?_set_self (by simp;omega)]),fun h=>(by cases h)⟩
  (by
   rintro ⟨ch,s,⟨⟩⟩ ⟨e1,e2,e3,e4⟩
   simp only at e1 e2 e3 e4
   simp only [ZGt]
   by_cases hc:ch=true
   ·rw [if_pos hc]
    obtain ⟨ch',s',h1,hR⟩:=round_eq hL hLs hlv e1 e2
    rw [h1]
    refine .inl ⟨_,rfl,⟨hR.len,hR.snd,hR.up _ e3,fun h=>?_⟩,?_⟩
    ·obtain ⟨e,hcl⟩:=hR.still h
     simp only
     rw [e];exact hcl
    ·have hless:=hR.less
     simp only [hc,if_true]
     by_cases hc':ch'=true
     ·simp only [hc',if_true] at hless ⊢;omega
     ·simp only [hc',if_false] at hless ⊢;omega
   ·rw [if_neg hc]
    have hcl:=e4 (by simpa using hc)
    refine .inr ⟨s,rfl,e1,fun a b hb=>?_⟩
    constructor
    ·intro h;subst h;exact e2 a hb
    ·intro h
     have hall:∀ c:Int,Rch L lv (fun a=>a=node) c→(0≤c∧s[c.toNat]?=some true):=by
      intro c hc
      refine hc.sub (T:=fun c=>0≤c∧s[c.toNat]?=some true) (fun a ha=>by subst ha;exact ⟨hn.1,e3⟩) (fun a c ha hl=>?_)
      obtain ⟨k,l,h1,h2,h3,h4⟩:=hl
      have hb2:=hL l (List.mem_of_getElem? h1)
      refine ⟨by omega,?_⟩
      rw [←h4]
      exact hcl k l (List.getElem?_eq_some_iff.1 h1).1 h1 h2 (by rw [h3];exact ha.2)
     have:=(hall (a:Int) h).2
     rw [Int.toNat_natCast,hb] at this
     injection this)
 exact this
/-
  Plain laws: live links, rising lists.
-/
def ZHp (n:Nat) (br:List Int):List Bool:=(List.range n).map (fun (k:Nat)=>!decide ((k:Int)∈br))
theorem ZHQ (n:Nat) (br:List Int):(ZHp n br).length=n:=by simp [ZHp]
theorem ZHN (l:List Int) (x:Int) (hl:l.length≤1048576):ZHx l x=some (decide (x∈l)):=by
 unfold ZHx
 rw [Zru (l:=l) (p:=fun y=>decide (y=x)) (out:=fun i=>decide (0≤i)) (show List.length _≤_ by omega) (fun k y hy=>by
  have hk:=(List.getElem?_eq_some_iff.1 hy).1
  simp only [ZHt,show (k:Int)<(l.length:Int) from by omega,if_true,VU,hy,Bq,decide_eq_true_eq]
  split
  ·rw [decide_eq_true (by omega)]
  ·rfl) (by simp only [ZHt,Int.lt_irrefl,if_false];rfl)]
 congr 1
 rw [decide_eq_decide,ZrE,List.any_eq_true]
 constructor
 ·rintro ⟨y,hy,e⟩;simp at e;subst e;exact hy
 ·intro h;exact ⟨x,h,by simp⟩
theorem ZHW (L:List Ze4) (br:List Int) (hL:L.length≤6000) (hb:br.length≤1048576):ZHy L br=some (ZHp L.length br):=by
 have e:cat (fun k (_:Ze4)=>[!decide ((k:Int)∈br)]) 0 L=ZHp L.length br:=by
  apply List.ext_getElem?
  intro j
  rw [ZIL]
  unfold ZHp
  rw [List.getElem?_map,Nat.zero_add]
  by_cases h:j<L.length
  ·rw [List.getElem?_eq_getElem h,List.getElem?_range h];rfl
  ·rw [List.getElem?_eq_none (by omega),List.getElem?_eq_none (by simp;omega)];rfl
 unfold ZHy
 refine ZaG (l:=L) (fun k (_:Ze4)=>[!decide ((k:Int)∈br)]) [] (fun k x hx hk=>?_) ?_
 ·have h1:(cat (fun k (_:Ze4)=>[!decide ((k:Int)∈br)]) 0 (L.take k)).length=(L.take k).length:=ZH0
  rw [List.length_take] at h1
  simp only [List.nil_append,ZHj,show (k:Int)<(L.length:Int) from by omega,if_true,ZHN br _ hb,Bq]
  rw [ZB (by rw [List.length_singleton];omega),Zkd (by omega)]
 ·simp only [List.nil_append,ZHj,Int.lt_irrefl,if_false,e]
def ZHY (n:Int) (l:List Int):Prop:=ZuY l 0 (n-1)∧Inc l
theorem ZKe {l:List Int}:Inc l↔Zna l (fun k x=>∀ y,0<k→l[k-1]?=some y→y<x):=by
 constructor
 ·intro h k x hx y hk hy
  exact h (k-1) y x hy (by rw [show k-1+1=k by omega];exact hx)
 ·intro h k x y hx hy
  exact h (k+1) y hy x (by omega) hx
theorem ZHR (l:List Int) (n:Int) (hl:l.length≤1048576) (hn:0≤n∧n≤1048576):ZHo l n=some (tr (ZHY n l)):=by
 have e1:Wq (n-1)=n-1:=XD (by omega) (by omega)
 unfold ZHo
 rw [Zrc (l:=l) (show List.length _≤_ by omega) (fun k x=>(0≤x∧x≤n-1)∧∀ y,0<k→l[k-1]?=some y→y<x) (bad:=false) (good:=true)
  (fun k x hx hk _=>by
   simp only [ZG0,show (k:Int)<(l.length:Int) from by omega,if_true,VU,hx,Bq,ZrJ,e1]
   by_cases hb:0≤x∧x≤n-1
   ·rw [if_pos (ZcF hb)]
    by_cases h0:(0:Int)<(k:Int)
    ·obtain ⟨y,hy⟩:∃ y,l[k-1]?=some y:=⟨_,List.getElem?_eq_getElem (by omega)⟩
     rw [if_pos h0,ZAd (by omega) (by omega),VU,hy,Bq]
     constructor
     ·intro hh
      rw [if_neg]
      have:=hh.2 y (by omega) rfl
      omega
     ·intro hh
      rw [if_pos]
      apply Classical.byContradiction
      intro hlt
      refine hh ⟨hb,fun y' _ hy'=>?_⟩
      injection hy' with hy'
      have:¬x≤y:=hlt
      omega
    ·rw [if_neg h0]
     exact ⟨fun _=>rfl,fun hh=>absurd ⟨hb,fun y hk0=>by omega⟩ hh⟩
   ·rw [if_neg (fun q=>hb ((Zgv _).1 q))]
    exact ⟨fun hh=>absurd hh.1 hb,fun _=>rfl⟩)
  (fun _=>by simp only [ZG0,Int.lt_irrefl,if_false]),Zxw]
 congr 1
 refine ZqI ?_
 unfold ZHY
 rw [ZKe]
 constructor
 ·intro q
  exact ⟨Ztw.1 (fun k x hx=>(q k x hx).1),fun k x hx=>(q k x hx).2⟩
 ·rintro ⟨q1,q2⟩ k x hx
  exact ⟨q1 x (List.mem_of_getElem? hx),q2 k x hx⟩
theorem ZH3 {b:Zv} (h:ZqJ b) {l:Ze4} (hl:l∈ZGm b):(0≤Ze4.From l∧Ze4.From l<2*((places (Zv.Design b)).length:Int))∧(0≤Ze4.To l∧Ze4.To l<2*((places (Zv.Design b)).length:Int)):=by
 have hf:=h.ok.1.few
 unfold ZGm at hl
 rcases List.mem_append.1 hl with hl | hl
 ·obtain ⟨i,x,hi,hx⟩:=Zug.1 hl
  rw [Nat.zero_add] at hx
  obtain ⟨hc,⟨c,hc1,hc2⟩,_⟩:=h.ok.1.2.2.1 x (List.mem_of_getElem? hi)
  have hC:=h.ok.1.1.2.1 c (List.mem_of_getElem? hc1)
  unfold ZIc at hx
  rw [hc1] at hx
  obtain ⟨k,a,ha,hla⟩:=Zug.1 hx
  have hao:=(hC.2.2.1.2 k a ha).1
  have h1:=hao.1
  have h2:=hao.2.1
  obtain ⟨B,hB⟩:=ZIb hi
  have hlen:fst (Zv.Design b) i+(Zz.Zbh x).length≤(places (Zv.Design b)).length:=by
   rw [hB,List.length_append,List.length_append,ZHF];unfold fst;omega
  unfold ZIi at hla
  obtain ⟨p,hp,rfl⟩:=List.mem_map.1 hla
  have htr:(0≤p.1∧p.1≤1)∧(0≤p.2.1∧p.2.1≤1):=by
   unfold trs at hp
   repeat' split at hp
   all_goals (simp only [List.mem_cons,List.not_mem_nil,or_false] at hp)
   all_goals first | (rcases hp with rfl | rfl | rfl | rfl<;>simp) | (rcases hp with rfl | rfl<;>simp) | exact hp.elim
  simp only [ZG7,Ze4.From,Ze4.To]
  omega
 ·obtain ⟨v,w,hw,hx⟩:=Zug.1 hl
  rw [Nat.zero_add] at hx
  have hv:v<(Zp.Zbh (Zv.Design b)).length:=by
   have:=(List.getElem?_eq_some_iff.1 hw).1
   have:=h.ok.2.1
   omega
  have hd:=ZIX h hv
  obtain ⟨j,s,hs,hls⟩:=Zug.1 hx
  have hsb:=ZFv (List.mem_of_getElem? hs)
  simp only [List.mem_cons,List.not_mem_nil,or_false] at hls
  rcases hls with rfl | rfl
  ·simp only [ZG7,Ze4.From,Ze4.To];omega
  ·simp only [ZG7,Ze4.From,Ze4.To];omega
theorem ZHM {b:Zv} (h:ZqJ b):(ZGm b).length≤6000:=by
 have h1:=ZHT h
 have h2:=ZHZ h (Zv.ZlA b)
 have h3:=h.ok.2.1
 have h4:=h.ok.1.2.1.2.1
 unfold ZGm ZI1
 rw [List.length_append]
 omega
/-
  Plain laws: what stands behind a link.
-/
def ZMZ (b:Zv) (x:Ze4) (y:Pl):Prop:=Ze4.Kind x=1∧∃ (i:Nat) (u:Zz) (c:QG) (k:Nat) (a:ZfN),y.1=(i:Int)∧(Zp.Instances (Zv.Design b))[i]?=some u∧0≤Zz.Cell u∧(ZaF.Cells (Zv.Library b))[(Zz.Cell u).toNat]?=some c∧
 (QG.ZoW c)[k]?=some a∧Ze4.Index x=(k:Int)∧ZtB (ZfN.Delay a) true∧ZtB (ZfN.Znd a) true
def ZM1 (b:Zv) (x:Ze4) (v:Nat):Prop:=Ze4.Kind x=2∧∃ (w:QH) (j:Nat) (z:Int),(Zv.ZlA b)[v]?=some w∧Ze4.Index x=(j:Int)∧(QH.ZnH w)[j]?=some z
structure ZMO (b:Zv) (x:Ze4) (y:Pl) (v:Nat):Prop where
 to0:0≤Ze4.To x
 to1:Ze4.To x≤1000000
 place:(places (Zv.Design b))[(Ze4.To x / 2).toNat]?=some y
 net:y.2.2.1=(v:Int)
 few:v<(Zv.ZlA b).length
 kind:ZMZ b x y∨ZM1 b x v
theorem ZMv {b:Zv} (h:ZqJ b) {x:Ze4} (hl:x∈ZGm b):∃ y v,ZMO b x y v:=by
 have hf:=h.ok.1.few
 have hpl:=Zck hf
 have hbd:=ZH3 h hl
 have hwn:=h.ok.2.1
 unfold ZGm at hl
 rcases List.mem_append.1 hl with hl | hl
 ·obtain ⟨i,u,hi,hx⟩:=Zug.1 hl
  rw [Nat.zero_add] at hx
  obtain ⟨hc,⟨c,hc1,hc2⟩,hnets⟩:=h.ok.1.2.2.1 u (List.mem_of_getElem? hi)
  have hC:=h.ok.1.1.2.1 c (List.mem_of_getElem? hc1)
  unfold ZIc at hx
  rw [hc1] at hx
  obtain ⟨k,a,ha,hla⟩:=Zug.1 hx
  rw [Nat.zero_add] at hla
  have hao:=(hC.2.2.1.2 k a ha).1
  have h1:=hao.1
  have h2:=hao.2.1
  obtain ⟨B,hB⟩:=ZIb hi
  unfold ZIi at hla
  obtain ⟨p,hp,rfl⟩:=List.mem_map.1 hla
  have htr:(0≤p.2.1∧p.2.1≤1)∧(ZfN.Kind a=1∨ZfN.Kind a=2∨ZfN.Kind a=3):=by
   unfold trs at hp
   repeat' split at hp
   all_goals (simp only [List.mem_cons,List.not_mem_nil,or_false] at hp)
   all_goals first | (rcases hp with rfl | rfl | rfl | rfl<;>simp<;>omega) | (rcases hp with rfl | rfl<;>simp<;>omega) | exact hp.elim
  obtain ⟨ht,hk⟩:=htr
  have htabs:ZtB (ZfN.Delay a) true∧ZtB (ZfN.Znd a) true:=by
   rcases hao.2.2 with q | q | q
   ·exact ⟨q.2.2.2.2.1,q.2.2.2.2.2⟩
   ·exact ⟨q.2.2.2.2.1,q.2.2.2.2.2⟩
   ·have:=q.1;omega
  have hn:(Zz.Zbh u)[(ZfN.To a).toNat]?=some ((Zz.Zbh u)[(ZfN.To a).toNat]'(by omega)):=List.getElem?_eq_getElem _
  have hnet:=hnets _ (List.mem_of_getElem? hn)
  generalize (Zz.Zbh u)[(ZfN.To a).toNat]'(by omega)=n at hn hnet
  have hnet0:0≤n∧n≤((Zp.Zbh (Zv.Design b)).length:Int)-1:=hnet
  have hfst:(cat ZeJ 0 ((Zp.Instances (Zv.Design b)).take i)).length=fst (Zv.Design b) i:=rfl
  have eto:Ze4.To (ZG7 ((fst (Zv.Design b) i:Nat)+ZfN.From a) ((fst (Zv.Design b) i:Nat)+ZfN.To a) p.1 p.2.1 1 (k:Int))=2*((fst (Zv.Design b) i:Int)+ZfN.To a)+p.2.1:=rfl
  have hpos:((2*((fst (Zv.Design b) i:Int)+ZfN.To a)+p.2.1) / 2).toNat=fst (Zv.Design b) i+(ZfN.To a).toNat:=by omega
  refine ⟨((i:Int),(((ZfN.To a).toNat:Nat):Int),n,decide ((((ZfN.To a).toNat:Nat):Int)=Wq (((Zz.Zbh u).length:Int)-1)),()),n.toNat,hbd.2.1,by have:=hbd.2.2;omega,?_,by show n=_;omega,by omega,.inl ⟨rfl,i,u,c,k,a,rfl,hi,hc.1,hc1,ha,rfl,htabs.1,htabs.2⟩⟩
  rw [eto,hpos,hB,List.getElem?_append_right (by rw [hfst];omega),hfst,Nat.add_sub_cancel_left,List.getElem?_append_left (by rw [ZHF];omega)]
  unfold ZeJ
  rw [ZIL,hn,Nat.zero_add]
  rfl
 ·obtain ⟨v,w,hw,hx⟩:=Zug.1 hl
  rw [Nat.zero_add] at hx
  have hv:=(List.getElem?_eq_some_iff.1 hw).1
  obtain ⟨j,s,hs,hls⟩:=Zug.1 hx
  rw [Nat.zero_add] at hls
  have hsl:((QH.ZnH w).length:Int)=((sinks (Zv.Design b) (v:Int)).length:Int):=(h.ok.2.2 v w hw).2.2.2.1
  have hjl:=(List.getElem?_eq_some_iff.1 hs).1
  have hz:(QH.ZnH w)[j]?=some ((QH.ZnH w)[j]'(by omega)):=List.getElem?_eq_getElem _
  obtain ⟨q,y,hq,hy⟩:=Zug.1 (show s∈cat (Zg9 (v:Int)) 0 (places (Zv.Design b)) from List.mem_of_getElem? hs)
  rw [Nat.zero_add] at hy
  have hsq:s=(q:Int)∧y.2.2.1=(v:Int):=by
   unfold Zg9 at hy
   split at hy
   ·rename_i e
    split at hy
    ·cases hy
    ·exact ⟨List.mem_singleton.1 hy,e⟩
   ·cases hy
  obtain ⟨rfl,hnet⟩:=hsq
  simp only [List.mem_cons,List.not_mem_nil,or_false] at hls
  rcases hls with rfl | rfl
  ·refine ⟨y,v,hbd.2.1,by have:=hbd.2.2;omega,?_,hnet,hv,.inr ⟨rfl,w,j,_,hw,rfl,hz⟩⟩
   rw [show Ze4.To (ZG7 (ZHV (Zv.Design b) (v:Int)) (q:Int) 0 0 2 (j:Int))=2*(q:Int)+0 from rfl,show ((2*(q:Int)+0) / 2).toNat=q by omega]
   exact hq
  ·refine ⟨y,v,hbd.2.1,by have:=hbd.2.2;omega,?_,hnet,hv,.inr ⟨rfl,w,j,_,hw,rfl,hz⟩⟩
   rw [show Ze4.To (ZG7 (ZHV (Zv.Design b) (v:Int)) (q:Int) 1 1 2 (j:Int))=2*(q:Int)+1 from rfl,show ((2*(q:Int)+1) / 2).toNat=q by omega]
   exact hq
/-
  Plain ground: bounds of products.
-/
theorem ZFw {a b A B:Int} (h1:0≤a) (h2:a≤A) (h3:0≤b) (h4:b≤B):0≤a*b∧a*b≤A*B :=
 ⟨Int.mul_nonneg h1 h3,Int.mul_le_mul h2 h4 h3 (by omega)⟩
/-
  Plain laws: loops of links, and how the reference breaks them.
-/
def ZHX (L:List Ze4):List Ze4:=L.map (fun l=>(Ze4.To l,Ze4.From l,Ze4.Kind l,l.2.2.2))
theorem ZIu (L:List Ze4):(ZHX L).length=L.length:=List.length_map ..
theorem ZKc {α β:Type} (f:α→β) (l:List α) (i:Int):atI (l.map f) i=(atI l i).map f:=by
 unfold atI
 split
 ·rw [List.getElem?_map]
 ·rfl
theorem ZJy (n node:Int) (L:List Ze4) (lv:List Bool):ZGK n L lv node false=ZGK n (ZHX L) lv node true:=by
 have e0:∀ (ch:Bool) (k:Int) (l1:List Bool),ZGp L lv false ch k l1=ZGp (ZHX L) lv true ch k l1:=by
  intro ch k l1
  unfold ZGp
  rw [ZIu]
  by_cases h:k<(L.length:Int)
  ·rw [if_pos h,if_pos h]
   unfold ZHX
   rw [ZKc]
   cases atI L k with
   | none=>rfl
   | some x=>rfl
  ·rw [if_neg h,if_neg h]
 have e1:∀ (ch:Bool) (l0:List Bool),ZGt L lv false ch l0=ZGt (ZHX L) lv true ch l0:=by
  intro ch l0
  unfold ZGt
  simp only [e0]
 unfold ZGK
 simp only [e1]
theorem ZJO {L:List Ze4} {lv:List Bool} {a c:Int} (h:Live (ZHX L) lv a c):Live L lv c a:=by
 obtain ⟨k,l,h1,h2,h3,h4⟩:=h
 unfold ZHX at h1
 rw [List.getElem?_map,Option.map_eq_some_iff] at h1
 obtain ⟨x,hx,rfl⟩:=h1
 exact ⟨k,x,hx,h2,h4,h3⟩
theorem ZJv {L:List Ze4} {lv:List Bool} {a c:Int} (h:Live L lv c a):Live (ZHX L) lv a c:=by
 obtain ⟨k,l,h1,h2,h3,h4⟩:=h
 exact ⟨k,_,by unfold ZHX;rw [List.getElem?_map,h1];rfl,h2,h4,h3⟩
theorem ZJW {N:Nat} {L:List Ze4} (h:InN N L):InN N (ZHX L):=fun l hl=>by
 unfold ZHX at hl
 obtain ⟨x,hx,rfl⟩:=List.mem_map.1 hl
 exact ⟨(h x hx).2,(h x hx).1⟩
structure Scc (N:Nat) (L:List Ze4) (lv:List Bool) (v:Int) (m:List Int):Prop where
 mem:∀ c,c∈m↔((0≤c∧c<(N:Int))∧Rch L lv (fun a=>a=v) c∧Rch (ZHX L) lv (fun a=>a=v) c)
 nod:m.Nodup
 len:m.length≤N
 more:1<m.length∨∃ (k:Nat) (l:Ze4),L[k]?=some l∧lv[k]?=some true∧Ze4.From l=v∧Ze4.To l=v
 v0:0≤v∧v<(N:Int)
theorem ZIT (v:Int):∀ {m:List Int},m.Nodup→1<m.length→∃ a,a∈m∧a≠v
 | [],_,h=>by simp at h
 | [_],_,h=>by simp at h
 | a::b::r,hn,_=>by
  by_cases q:a=v
  ·refine ⟨b,by simp,fun e=>?_⟩
   rw [List.nodup_cons] at hn
   exact hn.1 (by rw [q,←e];simp)
  ·exact ⟨a,by simp,q⟩
theorem Scc.cell {N:Nat} {L:List Ze4} {lv:List Bool} {v:Int} {m:List Int} (h:Scc N L lv v m) {D:Int→Prop} (hL:InN N L) (hD:∀ l∈L,Ze4.Kind l=1∨(D (Ze4.From l)∧¬D (Ze4.To l))) :
  ∃ (k:Nat) (l:Ze4),L[k]?=some l∧lv[k]?=some true∧Ze4.Kind l=1∧Ze4.From l∈m∧Ze4.To l∈m:=by
 apply Classical.byContradiction
 intro hno
 have key:∀ (a c:Int),Live L lv a c→a∈m→c∈m→D a∧¬D c:=by
  rintro a c ⟨k,l,h1,h2,rfl,rfl⟩ ha hc
  rcases hD l (List.mem_of_getElem? h1) with q | q
  ·exact absurd ⟨k,l,h1,h2,q,ha,hc⟩ hno
  ·exact q
 have inn:∀ {a c:Int},Live L lv a c→(0≤a∧a<(N:Int))∧(0≤c∧c<(N:Int)):=by
  rintro a c ⟨k,l,h1,h2,rfl,rfl⟩
  exact hL l (List.mem_of_getElem? h1)
 have hv:v∈m:=(h.mem v).2 ⟨h.v0,.base rfl,.base rfl⟩
 rcases h.more with hm | ⟨k,l,h1,h2,h3,h4⟩
 ·obtain ⟨a,ha,hav⟩:=ZIT v h.nod hm
  obtain ⟨_,ra,rb⟩:=(h.mem a).1 ha
  have ra0:=ra
  have rb0:=rb
  cases ra with
  | base q=>exact hav q
  | @step c _ rc hl =>
   have hc:c∈m:=(h.mem c).2 ⟨(inn hl).1,rc,rb0.step (ZJv hl)⟩
   have k1:=key _ _ hl hc ha
   cases rb with
   | base q=>exact hav q
   | @step c' _ rc' hl' =>
    have hl'':=ZJO hl'
    have hc':c'∈m:=(h.mem c').2 ⟨(inn hl'').2,ra0.step hl'',rc'⟩
    exact k1.2 (key _ _ hl'' ha hc').1
 ·have:=key v v ⟨k,l,h1,h2,h3,h4⟩ hv hv
  exact this.2 this.1
theorem ZJQ {L:List Ze4} {lv:List Bool} (hLs:L.length≤6000) (hlv:lv.length=L.length) (v:Int):Gets (ZHE L lv v) (fun r=>r=true→∃ (k:Nat) (l:Ze4),L[k]?=some l∧lv[k]?=some true∧Ze4.From l=v∧Ze4.To l=v):=by
 unfold ZHE
 refine Gets.loop (fun s=>0≤s.1∧s.1≤6000) (fun s=>(6000-s.1).toNat) ⟨Int.le_refl _,by dsimp only;omega⟩ ?_
 rintro ⟨k,⟨⟩⟩ ⟨k0,k1⟩
 dsimp only at k0 k1
 show Gets (ZHl L lv v k) _
 unfold ZHl
 have en:Wq (k+1)=k+1:=XD (by omega) (by omega)
 simp only [en]
 refine Gets.ite (fun hk=>?_) (fun _=>.ret (show false=true→_ from fun q=>by cases q))
 refine .at k0 (by omega) fun x hx hx2=>?_
 refine Gets.ite (fun hxt=>?_) (fun _=>.ret ⟨⟨by dsimp only;omega,by dsimp only;omega⟩,by dsimp only;omega⟩)
 refine .at k0 hk fun l hl hl2=>?_
 refine Gets.ite (fun h1=>?_) (fun _=>.ret ⟨⟨by dsimp only;omega,by dsimp only;omega⟩,by dsimp only;omega⟩)
 refine Gets.ite (fun h2=>?_) (fun _=>.ret ⟨⟨by dsimp only;omega,by dsimp only;omega⟩,by dsimp only;omega⟩)
 exact .ret (show true=true→_ from fun _=>⟨k.toNat,l,hl2,by rw [hx2,hxt],h1,h2⟩)
theorem ZJw {N:Nat} {L:List Ze4} {lv:List Bool} (hNs:N≤1000) (hL:InN N L) (hLs:L.length≤6000) (hlv:lv.length=L.length):Gets (ZHz (N:Int) L lv) (fun r=>∀ m∈r,∃ v,Scc N L lv v m):=by
 unfold ZHz
 refine .guard (by omega) (.guard (Int.le_refl _) (.guard (by omega) (.guard (by omega) ?_)))
 refine Gets.loop (fun s=>0≤s.2.1∧s.2.1≤(N:Int)∧(s.1.length:Int)≤s.2.1∧(∀ m∈s.1,∃ v,Scc N L lv v m)∧s.2.2.1.length=N) (fun s=>((N:Int)-s.2.1).toNat) ⟨Int.le_refl _,by dsimp only;omega,by dsimp only [List.length_nil];omega,fun m hm=>(by cases hm),by simp⟩ ?_
 rintro ⟨out,v,l0,⟨⟩⟩ ⟨i0,i1,i2,i3,i4⟩
 dsimp only at i0 i1 i2 i3 i4
 show Gets (ZHf (N:Int) L lv out v l0) _
 unfold ZHf
 have en:Wq (v+1)=v+1:=XD (by omega) (by omega)
 refine Gets.ite (fun hv=>?_) (fun _=>.ret (show ∀ m∈out,_ from i3))
 refine .at i0 (by omega) fun x hx _=>?_
 refine Gets.ite (fun _=>?_) (fun _=>?_)
 ·rw [en]
  exact .ret ⟨⟨by dsimp only;omega,by dsimp only;omega,by dsimp only;omega,i3,i4⟩,by dsimp only;omega⟩
 obtain ⟨r0,e0,l0',h0⟩:=ZH9 hNs hL hLs hlv (node:=v) ⟨i0,hv⟩
 obtain ⟨r1,e1,l1',h1⟩:=ZH9 (L:=ZHX L) hNs (ZJW hL) (by rw [ZIu];exact hLs) (by rw [ZIu];exact hlv) (node:=v) ⟨i0,hv⟩
 rw [←ZJy] at e1
 rw [e0,Bq,e1,Bq]
 refine Gets.loop (fun s=>0≤s.2.1∧s.2.1≤(N:Int)∧(s.1.length:Int)≤s.2.1∧s.1.Nodup∧s.2.2.1.length=N∧∀ c,c∈s.1↔((0≤c∧c<s.2.1)∧Rch L lv (fun a=>a=v) c∧Rch (ZHX L) lv (fun a=>a=v) c)) (fun s=>((N:Int)-s.2.1).toNat)
  ⟨Int.le_refl _,by dsimp only;omega,by dsimp only [List.length_nil];omega,List.nodup_nil,i4,fun c=>⟨fun h=>(by cases h),fun h=>by dsimp only at h;omega⟩⟩ ?_
 rintro ⟨m,k,l,⟨⟩⟩ ⟨j0,j1,j2,j3,j4,j5⟩
 dsimp only at j0 j1 j2 j3 j4 j5
 show Gets (ZHe (N:Int) L lv out v r0 r1 m k l) _
 unfold ZHe
 have ek:Wq (k+1)=k+1:=XD (by omega) (by omega)
 simp only [ek,en]
 refine Gets.ite (fun hk=>?_) (fun hk=>?_)
 ·refine .at j0 (by omega) fun x hx hx2=>?_
  have hk3:((k.toNat:Nat):Int)=k:=by omega
  have a0:=h0 k.toNat x hx2
  rw [hk3] at a0
  have skip:(¬(Rch L lv (fun a=>a=v) k∧Rch (ZHX L) lv (fun a=>a=v) k))→∀ c,c∈m↔((0≤c∧c<k+1)∧Rch L lv (fun a=>a=v) c∧Rch (ZHX L) lv (fun a=>a=v) c):=fun hn c=>by
   rw [j5 c]
   constructor
   ·rintro ⟨q1,q2⟩
    exact ⟨by omega,q2⟩
   ·rintro ⟨q1,q2⟩
    by_cases e:c=k
    ·subst e;exact absurd q2 hn
    ·exact ⟨by omega,q2⟩
  refine Gets.ite (fun hxt=>?_) (fun hxf=>?_)
  ·refine .at j0 (by omega) fun y hy hy2=>?_
   have a1:=h1 k.toNat y hy2
   rw [hk3] at a1
   refine Gets.ite (fun hyt=>?_) (fun hyf=>?_)
   ·refine .guard (by simp only [List.length_cons,List.length_nil];omega) ?_
    refine .at j0 (by omega) fun _ _ _=>?_
    refine .ret ⟨⟨by dsimp only;omega,by dsimp only;omega,by dsimp only;simp only [List.length_append,List.length_cons,List.length_nil];omega,?_,by dsimp only;rw [List.length_set];exact j4,fun c=>?_⟩,by dsimp only;omega⟩
    ·dsimp only
     rw [List.nodup_append]
     refine ⟨j3,by simp,fun a ha b hb=>?_⟩
     rw [List.mem_singleton] at hb
     have:=((j5 a).1 ha).1
     omega
    ·dsimp only
     rw [List.mem_append,List.mem_singleton,j5 c]
     constructor
     ·rintro (⟨q1,q2⟩ | rfl)
      ·exact ⟨by omega,q2⟩
      ·exact ⟨by omega,a0.1 hxt,a1.1 hyt⟩
     ·rintro ⟨q1,q2⟩
      by_cases e:c=k
      ·exact .inr e
      ·exact .inl ⟨by omega,q2⟩
   ·exact .ret ⟨⟨by dsimp only;omega,by dsimp only;omega,by dsimp only;omega,j3,j4,skip fun q=>hyf (a1.2 q.2)⟩,by dsimp only;omega⟩
  ·exact .ret ⟨⟨by dsimp only;omega,by dsimp only;omega,by dsimp only;omega,j3,j4,skip fun q=>hxf (a0.2 q.1)⟩,by dsimp only;omega⟩
 ·have hkN:k=(N:Int):=by omega
  have hS:(1<m.length∨∃ (k:Nat) (l:Ze4),L[k]?=some l∧lv[k]?=some true∧Ze4.From l=v∧Ze4.To l=v)→Scc N L lv v m:=fun hm=>⟨fun c=>by rw [j5 c,hkN],j3,by omega,hm,⟨i0,hv⟩⟩
  refine Gets.ite (fun h1=>?_) (fun _=>?_)
  ·refine .guard (by simp only [List.length_cons,List.length_nil];omega) (.ret ⟨⟨by dsimp only;omega,by dsimp only;omega,by dsimp only;simp only [List.length_append,List.length_cons,List.length_nil];omega,Yi i3 ⟨v,hS (.inl (by omega))⟩,j4⟩,by dsimp only;omega⟩)
  ·refine (ZJQ hLs hlv v).bind fun q hq=>?_
   refine Gets.ite (fun hqt=>?_) (fun _=>?_)
   ·exact .guard (by simp only [List.length_cons,List.length_nil];omega) (.ret ⟨⟨by dsimp only;omega,by dsimp only;omega,by dsimp only;simp only [List.length_append,List.length_cons,List.length_nil];omega,Yi i3 ⟨v,hS (.inr (hq hqt))⟩,j4⟩,by dsimp only;omega⟩)
   ·exact .ret ⟨⟨by dsimp only;omega,by dsimp only;omega,by dsimp only;omega,i3,j4⟩,by dsimp only;omega⟩
def Drv (b:Zv) (a:Int):Prop:=∃ p,(places (Zv.Design b))[(a / 2).toNat]?=some p∧p.2.2.2.1=true
theorem ZJt {b:Zv} (h:ZqJ b):∀ l∈ZGm b,Ze4.Kind l=1∨(Drv b (Ze4.From l)∧¬Drv b (Ze4.To l)):=by
 intro l hl
 unfold ZGm at hl
 rcases List.mem_append.1 hl with hl | hl
 ·left
  obtain ⟨i,x,hi,hx⟩:=Zug.1 hl
  unfold ZIc at hx
  split at hx
  ·obtain ⟨k,a,ha,hla⟩:=Zug.1 hx
   unfold ZIi at hla
   obtain ⟨p,hp,rfl⟩:=List.mem_map.1 hla
   rfl
  ·cases hx
 ·right
  obtain ⟨v,w,hw,hx⟩:=Zug.1 hl
  rw [Nat.zero_add] at hx
  have hv:v<(Zp.Zbh (Zv.Design b)).length:=by
   have:=(List.getElem?_eq_some_iff.1 hw).1
   have:=h.ok.2.1
   omega
  obtain ⟨q,y,hy,hyd,hq,_⟩:=ZIZ h.ok.1 (Zrd h.sm).2.1 hv
  obtain ⟨j,s,hs,hls⟩:=Zug.1 hx
  have hsk:=List.mem_of_getElem? hs
  unfold sinks at hsk
  obtain ⟨k,x,hk,hsx⟩:=Zug.1 hsk
  have hs2:s=(k:Int)∧¬x.2.2.2.1=true:=by
   unfold Zg9 at hsx
   split at hsx
   ·split at hsx
    ·cases hsx
    ·rename_i q2
     simp only [List.mem_singleton] at hsx
     exact ⟨by omega,q2⟩
   ·cases hsx
  have hdy:y.2.2.2.1=true:=by
   unfold ZIY at hyd
   rw [Bool.and_eq_true] at hyd
   exact hyd.2
  have two:∀ c:Int,c=0∨c=1→Drv b (2*ZHV (Zv.Design b) (v:Int)+c)∧¬Drv b (2*s+c):=fun c hc=>by
   refine ⟨⟨y,?_,hdy⟩,fun hd=>?_⟩
   ·rw [hq,show ((2*(q:Int)+c) / 2).toNat=q by omega]
    exact hy
   ·obtain ⟨p,hp,hpd⟩:=hd
    rw [hs2.1,show ((2*(k:Int)+c) / 2).toNat=k by omega,hk] at hp
    injection hp with hp
    subst hp
    exact hs2.2 hpd
  simp only [List.mem_cons,List.not_mem_nil,or_false] at hls
  rcases hls with rfl | rfl
  ·exact two 0 (.inl rfl)
  ·exact two 1 (.inr rfl)
theorem ZIf {d:Zv} (hf:Few (Zv.Design d)):ZGJ d=some ((2*(places (Zv.Design d)).length:Nat):Int):=by
 have hpl:=Zck hf
 unfold ZGJ
 rw [JF _ hf,Bq,XD (by omega) (by omega)]
 congr 1
def ct (l:List Bool):Nat:=l.countP (fun b=>b)
theorem ZJ6:∀ (l:List Bool) (i:Nat),l[i]?=some true→ct (l.set i false)+1=ct l
 | [],_,h=>by simp at h
 | b::l,0,h=>by simp at h;subst h;simp [ct]
 | b::l,i+1,h=>by
  have:=ZJ6 l i (by simpa using h)
  unfold ct at this ⊢
  simp only [List.set_cons_succ,List.countP_cons]
  omega
def Found (L:List Ze4) (lv:List Bool) (m:List Int) (k v:Int):Prop :=
 (v=-1∧∀ (j:Nat) (l:Ze4),(j:Int)<k→L[j]?=some l→lv[j]?=some true→Ze4.Kind l=1→Ze4.From l∈m→Ze4.To l∈m→False)∨(0≤v∧v<(lv.length:Int)∧lv[v.toNat]?=some true)
theorem Found.stay {L:List Ze4} {lv:List Bool} {m:List Int} {k v:Int} (h:Found L lv m k v) (h0:0≤k) (hn:∀ l,L[k.toNat]?=some l→lv[k.toNat]?=some true→Ze4.Kind l=1→Ze4.From l∈m→Ze4.To l∈m→False):Found L lv m (k+1) v:=by
 rcases h with ⟨e,h⟩ | h
 ·refine .inl ⟨e,fun j l hj hl=>?_⟩
  by_cases q:(j:Int)<k
  ·exact h j l q hl
  ·have:j=k.toNat:=by omega
   subst this
   exact hn l hl
 ·exact .inr h
theorem ZI3 {b:Zv} (h:ZqJ b):Gets (ZHk b) (fun r=>r.length≤6000):=by
 have hLs:=ZHM h
 have hf:=h.ok.1.few
 have hpl:=Zck hf
 have hIn:InN (2*(places (Zv.Design b)).length) (ZGm b):=fun l hl=>by
  have:=ZH3 h hl
  omega
 unfold ZHk
 rw [ZHK h,Bq,ZHW _ _ hLs (by simp),Bq,ZIf hf,Bq]
 refine Gets.loop (fun s=>s.1.length=(ZGm b).length) (fun s=>ct s.1) (ZHQ _ _) ?_
 rintro ⟨lv,⟨⟩⟩ hl
 dsimp only at hl
 show Gets (ZHd (ZGm b) ((2*(places (Zv.Design b)).length:Nat):Int) lv) _
 unfold ZHd
 refine (ZJw (by omega) hIn hLs hl).bind fun loops hS=>?_
 refine Gets.ite (fun h0=>?_) (fun h0=>?_)
 ·refine Gets.loop (fun s=>0≤s.2.1∧s.2.1≤6000∧(s.1.length:Int)≤s.2.1) (fun s=>(6000-s.2.1).toNat) ⟨Int.le_refl _,by dsimp only;omega,by dsimp only [List.length_nil];omega⟩ ?_
  rintro ⟨out,k,⟨⟩⟩ ⟨i0,i1,i2⟩
  dsimp only at i0 i1 i2
  show Gets (ZHb lv out k) _
  unfold ZHb
  have en:Wq (k+1)=k+1:=XD (by omega) (by omega)
  simp only [en]
  refine Gets.ite (fun hk=>?_) (fun _=>.ret (show out.length≤6000 by omega))
  refine .at i0 hk fun x _ _=>Gets.ite (fun _=>?_) (fun _=>?_)
  ·exact .ret ⟨⟨by dsimp only;omega,by dsimp only;omega,by dsimp only;omega⟩,by dsimp only;omega⟩
  ·exact .guard (by simp only [List.length_cons,List.length_nil];omega) (.ret ⟨⟨by dsimp only;omega,by dsimp only;omega,by dsimp only;simp only [List.length_append,List.length_cons,List.length_nil];omega⟩,by dsimp only;omega⟩)
 ·match loops,h0,hS with
  | [],h0,_=>exact absurd rfl h0
  | m::r,_,hS =>
   obtain ⟨v,hScc⟩:=hS m (by simp)
   obtain ⟨kk,ll,c1,c2,c3,c4,c5⟩:=hScc.cell hIn (ZJt h)
   have hml:=hScc.len
   refine Gets.loop (fun s=>0≤s.2.1∧s.2.1≤((ZGm b).length:Int)∧s.2.2.1=m::r∧Found (ZGm b) lv m s.2.1 s.1) (fun s=>(((ZGm b).length:Int)-s.2.1).toNat)
    ⟨Int.le_refl _,by dsimp only;omega,rfl,.inl ⟨rfl,fun j l hj=>by dsimp only at hj;omega⟩⟩ ?_
   rintro ⟨w,k,l1,⟨⟩⟩ ⟨i0,i1,i2,i3⟩
   dsimp only at i0 i1 i2 i3
   subst i2
   show Gets (ZHc (ZGm b) lv w k (m::r)) _
   unfold ZHc
   have en:Wq (k+1)=k+1:=XD (by omega) (by omega)
   simp only [en]
   refine Gets.ite (fun hk=>?_) (fun hk=>?_)
   ·refine .at i0 (by omega) fun x hx hx2=>?_
    refine Gets.ite (fun hxt=>?_) (fun hxf=>?_)
    ·refine .at i0 hk fun l hl hl2=>?_
     have stay:¬(Ze4.Kind l=1∧Ze4.From l∈m∧Ze4.To l∈m)→Found (ZGm b) lv m (k+1) w:=fun hn=>i3.stay i0 fun l' e1 _ q1 q2 q3=>by
      rw [hl2] at e1
      injection e1 with e1
      subst e1
      exact hn ⟨q1,q2,q3⟩
     refine Gets.ite (fun hkind=>?_) (fun hkind=>?_)
     ·rw [show atI (m::r) (0:Int)=some m from rfl,Bq,ZHN _ _ (by omega),Bq]
      refine Gets.ite (fun q1=>?_) (fun q1=>?_)
      ·rw [ZHN _ _ (by omega),Bq]
       refine Gets.ite (fun q2=>?_) (fun q2=>?_)
       ·exact .ret ⟨⟨by dsimp only;omega,by dsimp only;omega,rfl,.inr ⟨i0,by omega,by dsimp only;rw [hx2,hxt]⟩⟩,by dsimp only;omega⟩
       ·exact .ret ⟨⟨by dsimp only;omega,by dsimp only;omega,rfl,stay fun q=>q2 (decide_eq_true q.2.2)⟩,by dsimp only;omega⟩
      ·exact .ret ⟨⟨by dsimp only;omega,by dsimp only;omega,rfl,stay fun q=>q1 (decide_eq_true q.2.1)⟩,by dsimp only;omega⟩
     ·exact .ret ⟨⟨by dsimp only;omega,by dsimp only;omega,rfl,stay fun q=>hkind q.1⟩,by dsimp only;omega⟩
    ·exact .ret ⟨⟨by dsimp only;omega,by dsimp only;omega,rfl,i3.stay i0 fun l' _ e2 _ _ _=>by
      rw [hx2] at e2
      injection e2 with e2
      exact hxf e2⟩,by dsimp only;omega⟩
   ·have hkk:=(List.getElem?_eq_some_iff.1 c1).1
    rcases i3 with ⟨_,q⟩ | ⟨q0,q1,q2⟩
    ·exact (q kk ll (by omega) c1 c2 c3 c4 c5).elim
    ·refine .at q0 q1 fun x _ _=>?_
     have:=ZJ6 lv w.toNat q2
     refine .ret ⟨?_,?_⟩
     ·show (List.set lv (Int.toNat w) false).length=_
      rw [List.length_set];exact hl
     ·show ct (List.set lv (Int.toNat w) false)<ct lv
      omega
/-
  Plain laws: what the draws of blocks with broken links, corners, sources and nodes yield.
-/
def ZJT (b:Zv):Prop:=Zyx b∧Few (Zv.Design b)
theorem ZfM.f {b:Zv} (h:ZfM b):ZJT b:=⟨⟨h.sm,fun _ _=>h.des.dn⟩,h.des.few⟩
theorem ZIj {s:Za} (hs:Src s):Gets (ZG5 s) (fun r=>ZJT r.1∧Src r.2):=by
 unfold ZG5
 have bl:∀ {t:Za} (wild:Bool),Src t→Gets ((Qz t (6:Int) wild).bind fun l07Draw0=>some (l07Draw0.fst,l07Draw0.snd)) (fun r:Zv×Za=>ZJT r.1∧Src r.2):=fun wild ht =>
  (ZeD ht (most:=6) (by omega) (by omega) wild).bind fun r ⟨h,h1⟩=>.ret ⟨h.f,h1⟩
 refine (Zf hs 12).bind fun r0 ⟨_,h0⟩=>?_
 refine Gets.ite (fun _=>?_) (fun _=>?_)
 ·exact (ZFD h0).bind fun r ⟨h,h1⟩=>.ret ⟨h,h1⟩
 ·exact Gets.ite (fun _=>Gets.ite (fun _=>bl _ h0) (fun _=>bl _ h0)) (fun _=>Gets.ite (fun _=>bl _ h0) (fun _=>bl _ h0))
theorem ZIK {s:Za} (hs:Src s) {b:Zv} (hb:sm ZjX b):Gets (ZGx s b) (fun r=>r.1.length≤7000∧Src r.2):=by
 unfold ZGx
 rw [Zrz b hb,Bq]
 refine Gets.ite (fun hB=>?_) (fun _=>.ret ⟨by simp,hs⟩)
 have h:ZqJ b:=⟨(Zgv _).1 hB,hb⟩
 have hLs:=ZHM h
 refine (Zf hs 3).bind fun r0 ⟨_,h0⟩=>?_
 refine Gets.ite (fun _=>.ret ⟨by simp,h0⟩) (fun _=>?_)
 rw [ZHK h,Bq]
 refine (Zf h0 8).bind fun r1 ⟨⟨a0,a1⟩,h1⟩=>?_
 have e1:Wq (1+r1.1)=1+r1.1:=XD (by omega) (by omega)
 rw [e1]
 refine (Zf h1 _).bind fun r2 ⟨⟨b0,b1⟩,h2⟩=>?_
 refine Gets.loop (fun v=>0≤v.2.1∧v.2.1≤6100∧(v.1.length:Int)≤v.2.1∧Src (v.2.2.1,v.2.2.2.1,v.2.2.2.2.1,())) (fun v=>(6200-v.2.1).toNat) ⟨b0,by dsimp only;omega,by dsimp only [List.length_nil];omega,h2⟩ ?_
 rintro ⟨out,k,d0,d1,d2,⟨⟩⟩ ⟨i0,i1,i2,i3⟩
 dsimp only at i0 i1 i2 i3
 show Gets (ZGE (ZGm b) r1 out k d0 d1 d2) _
 unfold ZGE
 rw [e1]
 refine Gets.ite (fun hk=>?_) (fun _=>?_)
 ·refine .guard (by simp only [List.length_cons,List.length_nil];omega) ?_
  refine (Zf i3 _).bind fun r3 ⟨⟨f0,f1⟩,h3⟩=>?_
  have f2:r3.1≤8:=by omega
  have e3:Wq (1+r3.1)=1+r3.1:=XD (by omega) (by omega)
  have e4:Wq (k+(1+r3.1))=k+(1+r3.1):=XD (by omega) (by omega)
  rw [e3,e4]
  exact .ret ⟨⟨by dsimp only;omega,by dsimp only;omega,by dsimp only;simp only [List.length_append,List.length_cons,List.length_nil];omega,h3⟩,by dsimp only;omega⟩
 ·refine (Zf i3 _).bind fun r3 ⟨_,h3⟩=>?_
  refine Gets.ite (fun _=>?_) (fun _=>.ret (show out.length≤7000∧Src r3.2 from ⟨by omega,h3⟩))
  refine (Zf h3 _).bind fun r4 ⟨_,h4⟩=>?_
  refine .guard (by simp only [List.length_cons,List.length_nil];omega) (.ret ⟨?_,h4⟩)
  show (out++[_]).length≤7000
  simp only [List.length_append,List.length_cons,List.length_nil]
  omega
theorem ZIM {s:Za} (hs:Src s):Gets (ZGV s) (fun r=>(Qj.Name r.1).length≤5∧Src r.2):=by
 unfold ZGV
 refine (Zf hs 3).bind fun r0 ⟨⟨a0,a1⟩,h0⟩=>?_
 refine .at a0 (by simp only [List.length_cons,List.length_nil];omega) fun x hx _=>?_
 have hx5:x.length≤5:=by
  simp only [List.mem_cons,List.not_mem_nil,or_false] at hx
  rcases hx with rfl | rfl | rfl
  ·exact Nat.le_of_ble_eq_true rfl
  ·exact Nat.le_of_ble_eq_true rfl
  ·exact Nat.le_of_ble_eq_true rfl
 refine (Zf h0 _).bind fun r1 ⟨_,h1⟩=>?_
 refine (Zf h1 _).bind fun r2 ⟨_,h2⟩=>?_
 refine (Zf h2 _).bind fun r3 ⟨_,h3⟩=>?_
 refine (Zf h3 _).bind fun r4 ⟨_,h4⟩=>?_
 refine (Zf h4 _).bind fun r5 ⟨_,h5⟩=>?_
 refine Gets.ite (fun _=>.ret ⟨hx5,h5⟩) (fun _=>?_)
 refine Gets.ite (fun _=>?_) (fun _=>?_)
 ·refine (Zf h5 3).bind fun r6 ⟨⟨b0,b1⟩,h6⟩=>?_
  exact .at b0 (by simp only [List.length_cons,List.length_nil];omega) fun _ _ _=>.ret ⟨hx5,h6⟩
 refine Gets.ite (fun _=>?_) (fun _=>?_)
 ·exact (Zf h5 2).bind fun r6 ⟨_,h6⟩=>.ret ⟨hx5,h6⟩
 ·exact Gets.ite (fun _=>.ret ⟨by show ([]:List UInt8).length≤5;simp,h5⟩) (fun _=>.ret ⟨hx5,h5⟩)
theorem ZII {s:Za} (hs:Src s) {b:Zv} (hb:sm ZjX b):Gets (ZGj s b) (fun r=>r.1.length≤400∧Src r.2):=by
 unfold ZGj
 rw [Zrz b hb,Bq]
 refine Gets.ite (fun hB=>?_) (fun _=>.ret ⟨by simp,hs⟩)
 have h:ZqJ b:=⟨(Zgv _).1 hB,hb⟩
 have hf:=h.ok.1.few
 have hpl:=Zck hf
 rw [JF _ hf,Bq]
 generalize places (Zv.Design b)=ps at hpl
 refine Gets.loop (fun v=>0≤v.2.1∧v.2.1≤(ps.length:Int)∧(v.1.length:Int)≤2*v.2.1∧Src (v.2.2.1,v.2.2.2.1,v.2.2.2.2.1,())) (fun v=>((ps.length:Int)-v.2.1).toNat) ⟨Int.le_refl _,by dsimp only;omega,by dsimp only [List.length_nil];omega,hs⟩ ?_
 rintro ⟨out,p,c0,c1,c2,⟨⟩⟩ ⟨i0,i1,i2,i3⟩
 dsimp only at i0 i1 i2 i3
 show Gets (ZGA ps out p c0 c1 c2) _
 unfold ZGA
 have ep:Wq (p+1)=p+1:=XD (by omega) (by omega)
 refine Gets.ite (fun hp=>?_) (fun hp=>?_)
 ·refine .at i0 hp fun x _ _=>?_
  refine Gets.ite (fun _=>?_) (fun _=>?_)
  ·refine Gets.loop (fun v=>0≤v.2.1∧v.2.1≤2∧(v.1.length:Int)≤2*p+v.2.1∧Src (v.2.2.1,v.2.2.2.1,v.2.2.2.2.1,())) (fun v=>(2-v.2.1).toNat) ⟨Int.le_refl _,by dsimp only;omega,by dsimp only;omega,i3⟩ ?_
   rintro ⟨o,k,d0,d1,d2,⟨⟩⟩ ⟨j0,j1,j2,j3⟩
   dsimp only at j0 j1 j2 j3
   show Gets (ZGy p x o k d0 d1 d2) _
   unfold ZGy
   have ek:Wq (k+1)=k+1:=XD (by omega) (by omega)
   rw [ek,ep]
   have four:∀ {t:Za} {β:Type} {Q:β→Prop} {f:Int×Za→Int×Za→Int×Za→Int×Za→Option β},Src t→(∀ q1 q2 q3 q4:Int×Za,Src q4.2→Gets (f q1 q2 q3 q4) Q)→
     Gets ((Zc t (200:Int)).bind fun q1=>(Zc q1.snd (30:Int)).bind fun q2=>(Zc q2.snd (40:Int)).bind fun q3=>(Zc q3.snd (12:Int)).bind fun q4=>f q1 q2 q3 q4) Q:=fun ht hf =>
    (Zf ht _).bind fun q1 ⟨_,g1⟩=>(Zf g1 _).bind fun q2 ⟨_,g2⟩=>(Zf g2 _).bind fun q3 ⟨_,g3⟩=>(Zf g3 _).bind fun q4 ⟨_,g4⟩=>hf q1 q2 q3 q4 g4
   refine Gets.ite (fun hk=>?_) (fun hk=>?_)
   ·refine Gets.ite (fun _=>?_) (fun _=>?_)
    ·refine (Zf j3 _).bind fun r ⟨_,h1⟩=>?_
     refine Gets.ite (fun _=>?_) (fun _=>?_)
     ·refine four h1 fun q1 q2 q3 q4 g=>?_
      exact .guard (by simp only [List.length_cons,List.length_nil];omega) (.ret ⟨⟨by dsimp only;omega,by dsimp only;omega,by dsimp only;simp only [List.length_append,List.length_cons,List.length_nil];omega,g⟩,by dsimp only;omega⟩)
     ·refine (Zf h1 _).bind fun r ⟨_,h2⟩=>?_
      refine Gets.ite (fun _=>?_) (fun _=>?_)
      ·refine four h2 fun q1 q2 q3 q4 g=>?_
       exact .guard (by simp only [List.length_cons,List.length_nil];omega) (.ret ⟨⟨by dsimp only;omega,by dsimp only;omega,by dsimp only;simp only [List.length_append,List.length_cons,List.length_nil];omega,g⟩,by dsimp only;omega⟩)
      ·exact .ret ⟨⟨by dsimp only;omega,by dsimp only;omega,by dsimp only;omega,h2⟩,by dsimp only;omega⟩
    ·refine (Zf j3 _).bind fun r ⟨_,h1⟩=>?_
     refine Gets.ite (fun _=>?_) (fun _=>?_)
     ·refine four h1 fun q1 q2 q3 q4 g=>?_
      exact .guard (by simp only [List.length_cons,List.length_nil];omega) (.ret ⟨⟨by dsimp only;omega,by dsimp only;omega,by dsimp only;simp only [List.length_append,List.length_cons,List.length_nil];omega,g⟩,by dsimp only;omega⟩)
     ·exact .ret ⟨⟨by dsimp only;omega,by dsimp only;omega,by dsimp only;omega,h1⟩,by dsimp only;omega⟩
   ·exact .ret ⟨⟨by dsimp only;omega,by dsimp only;omega,by dsimp only;omega,j3⟩,by dsimp only;omega⟩
  ·refine Gets.loop (fun v=>0≤v.2.1∧v.2.1≤2∧(v.1.length:Int)≤2*p+v.2.1∧Src (v.2.2.1,v.2.2.2.1,v.2.2.2.2.1,())) (fun v=>(2-v.2.1).toNat) ⟨Int.le_refl _,by dsimp only;omega,by dsimp only;omega,i3⟩ ?_
   rintro ⟨o,k,d0,d1,d2,⟨⟩⟩ ⟨j0,j1,j2,j3⟩
   dsimp only at j0 j1 j2 j3
   show Gets (ZGz p o k d0 d1 d2) _
   unfold ZGz
   have ek:Wq (k+1)=k+1:=XD (by omega) (by omega)
   rw [ek,ep]
   refine Gets.ite (fun hk=>?_) (fun hk=>?_)
   ·refine (Zf j3 _).bind fun r ⟨_,h1⟩=>?_
    refine Gets.ite (fun _=>?_) (fun _=>?_)
    ·refine (Zf h1 _).bind fun q1 ⟨_,g1⟩=>(Zf g1 _).bind fun q2 ⟨_,g2⟩=>(Zf g2 _).bind fun q3 ⟨_,g3⟩=>(Zf g3 _).bind fun q4 ⟨_,g4⟩=>?_
     exact .guard (by simp only [List.length_cons,List.length_nil];omega) (.ret ⟨⟨by dsimp only;omega,by dsimp only;omega,by dsimp only;simp only [List.length_append,List.length_cons,List.length_nil];omega,g4⟩,by dsimp only;omega⟩)
    ·exact .ret ⟨⟨by dsimp only;omega,by dsimp only;omega,by dsimp only;omega,h1⟩,by dsimp only;omega⟩
   ·exact .ret ⟨⟨by dsimp only;omega,by dsimp only;omega,by dsimp only;omega,j3⟩,by dsimp only;omega⟩
 ·refine Gets.ite (fun h0=>?_) (fun _=>.ret (show out.length≤400∧Src (c0,c1,c2,()) from ⟨by omega,i3⟩))
  refine (Zf i3 _).bind fun r ⟨⟨a0,a1⟩,h1⟩=>?_
  have a2:r.1<(out.length:Int):=by omega
  refine (Zf h1 _).bind fun r2 ⟨_,h2⟩=>?_
  have fin:∀ y:ZbY,Gets (some (.inr (List.set out (Int.toNat r.1) y,r2.2)):Option (((List ZbY)×Int×(List Int)×Int×Int×Unit) ⊕ ((List ZbY)×Za))) (Rnd (fun v:(List ZbY)×Int×(List Int)×Int×Int×Unit=>0≤v.2.1∧v.2.1≤(ps.length:Int)∧(v.1.length:Int)≤2*v.2.1∧Src (v.2.2.1,v.2.2.2.1,v.2.2.2.2.1,())) (fun v=>((ps.length:Int)-v.2.1).toNat) ((ps.length:Int)-p).toNat (fun r=>r.1.length≤400∧Src r.2)):=fun y =>
   .ret (show (List.set out (Int.toNat r.1) y).length≤400∧Src r2.2 from ⟨by rw [List.length_set];omega,h2⟩)
  refine Gets.ite (fun _=>?_) (fun _=>?_)
  ·exact .at (Int.le_refl _) h0 fun _ _ _=>.at a0 a2 fun _ _ _=>fin _
  refine Gets.ite (fun _=>?_) (fun _=>?_)
  ·exact .at a0 a2 fun _ _ _=>fin _
  refine Gets.ite (fun _=>?_) (fun _=>?_)
  ·exact .at a0 a2 fun _ _ _=>fin _
  refine Gets.ite (fun _=>?_) (fun _=>?_)
  ·exact .at a0 a2 fun _ _ _=>fin _
  ·exact .ret (show out.length≤400∧Src r2.2 from ⟨by omega,h2⟩)
theorem ZJz {s:Za} (hs:Src s):Gets (ZHg s) (fun r=>ZJT r.1∧(Qj.Name r.2.1).length≤5∧r.2.2.1.length≤7000∧r.2.2.2.1.length≤400∧Src r.2.2.2.2):=by
 unfold ZHg
 refine (ZIj hs).bind fun r0 ⟨hb,h0⟩=>?_
 refine (ZIM h0).bind fun r1 ⟨hc,h1⟩=>?_
 refine (Zf h1 _).bind fun r2 ⟨_,h2⟩=>?_
 have rest:∀ (b:Zv) {t:Za},ZJT b→Src t→Gets ((ZGx t b).bind fun l09DrawBroken0 =>
   (Zsb b).bind fun IsBlock0 =>
   if IsBlock0=true then
    if (↑(List.length l09DrawBroken0.fst):Int)=(0:Int) then
     (Zc l09DrawBroken0.snd (6:Int)).bind fun l01Next1 =>
     if (0:Int)<l01Next1.fst then
      (ZHk b).bind fun l10Break0 =>
      (ZGj l01Next1.snd b).bind fun l12DrawSources0 =>
      some (b,r1.fst,l10Break0,l12DrawSources0.fst,l12DrawSources0.snd)
     else
      (ZGj l01Next1.snd b).bind fun l12DrawSources0 =>
      some (b,r1.fst,l09DrawBroken0.fst,l12DrawSources0.fst,l12DrawSources0.snd)
    else
     (ZGj l09DrawBroken0.snd b).bind fun l12DrawSources0 =>
     some (b,r1.fst,l09DrawBroken0.fst,l12DrawSources0.fst,l12DrawSources0.snd)
   else
    (ZGj l09DrawBroken0.snd b).bind fun l12DrawSources0 =>
    some (b,r1.fst,l09DrawBroken0.fst,l12DrawSources0.fst,l12DrawSources0.snd))
   (fun r:Zv×Qj×(List Int)×(List ZbY)×Za=>ZJT r.1∧(Qj.Name r.2.1).length≤5∧r.2.2.1.length≤7000∧r.2.2.2.1.length≤400∧Src r.2.2.2.2):=fun b t hb ht=>by
  refine (ZIK ht hb.1.1).bind fun r3 ⟨hl,h3⟩=>?_
  rw [Zrz b hb.1.1,Bq]
  have src:∀ {t:Za} (br:List Int),Src t→br.length≤7000→Gets ((ZGj t b).bind fun l12DrawSources0=>some (b,r1.fst,br,l12DrawSources0.fst,l12DrawSources0.snd)) (fun r:Zv×Qj×(List Int)×(List ZbY)×Za=>ZJT r.1∧(Qj.Name r.2.1).length≤5∧r.2.2.1.length≤7000∧r.2.2.2.1.length≤400∧Src r.2.2.2.2):=fun br ht hbr =>
   (ZII ht hb.1.1).bind fun q ⟨hq,g⟩=>.ret ⟨hb,hc,hbr,hq,g⟩
  refine Gets.ite (fun hB=>?_) (fun _=>src _ h3 hl)
  refine Gets.ite (fun _=>?_) (fun _=>src _ h3 hl)
  refine (Zf h3 _).bind fun r4 ⟨_,h4⟩=>?_
  refine Gets.ite (fun _=>?_) (fun _=>src _ h4 hl)
  exact (ZI3 ⟨(Zgv _).1 hB,hb.1.1⟩).bind fun q hq=>src _ h4 (by omega)
 refine Gets.ite (fun _=>?_) (fun _=>rest r0.1 hb h2)
 exact (ZeD h2 (most:=5) (by omega) (by omega) _).bind fun r3 ⟨hd,h3⟩=>rest r3.1 hd.f h3
/-
  Plain laws: what holds of what is drawn, if it is; the names of pins in drawn libraries.
-/
def Has {α:Type} (o:Option α) (Q:α→Prop):Prop:=∀ r,o=some r→Q r
theorem Has.any {α:Type} (o:Option α):Has o fun _=>True:=fun _ _=>trivial
theorem Has.ret {α:Type} {a:α} {Q:α→Prop} (h:Q a):Has (some a) Q:=fun r e=>by injection e with e;rw [←e];exact h
theorem Has.bind {α β:Type} {o:Option α} {P:α→Prop} {f:α→Option β} {Q:β→Prop} (h:Has o P) (k:∀ a,P a→Has (f a) Q):Has (o.bind f) Q:=fun r e=>by
 obtain ⟨a,ha,hf⟩:=Option.bind_eq_some_iff.1 e
 exact k a (h a ha) r hf
theorem Has.guard {α:Type} {p:Prop} {o:Option α} {Q:α→Prop} (k:Has o Q):Has (Zj p o) Q:=fun r e=>by
 unfold Zj at e
 split at e
 ·exact k r e
 ·cases e
theorem Has.ite {α:Type} {p:Prop} [Decidable p] {a b:Option α} {Q:α→Prop} (h1:Has a Q) (h2:Has b Q):Has (if p then a else b) Q:=by
 split
 ·exact h1
 ·exact h2
theorem Has.at {α β:Type} {l:List α} {i:Int} {f:α→Option β} {Q:β→Prop} (k:∀ x,0≤i→l[i.toNat]?=some x→Has (f x) Q):Has ((atI l i).bind f) Q:=fun r e=>by
 obtain ⟨a,ha,hf⟩:=Option.bind_eq_some_iff.1 e
 unfold atI at ha
 by_cases q:0≤i
 ·rw [if_pos q] at ha
  exact k a q ha r hf
 ·rw [if_neg q] at ha
  cases ha
def ZNn {τ ρ:Type} (I:τ→Prop) (Q:ρ→Prop):τ ⊕ ρ→Prop
 | .inl v=>I v
 | .inr r=>Q r
theorem Has.loop {τ ρ:Type} {step:τ→Option (τ ⊕ ρ)} (I:τ→Prop) {Q:ρ→Prop} {v:τ} (h0:I v) (hs:∀ v,I v→Has (step v) (ZNn I Q)):Has (ZA step v) Q:=fun r e=>by
 rw [J9] at e
 obtain ⟨n,hn⟩:=e
 revert v
 induction n with
 | zero=>intro v h0 hn;simp [iterM] at hn
 | succ n ih =>
  intro v h0 hn
  simp only [iterM] at hn
  cases e1:step v with
  | none=>rw [e1] at hn;cases hn
  | some x =>
   rw [e1] at hn
   have:=hs v h0 x e1
   cases x with
   | inl v'=>exact ih this hn
   | inr q=>injection hn with hn;rw [←hn];exact this
theorem Gets.ZMG {α:Type} {o:Option α} {P Q:α→Prop} (h:Gets o P) (k:Has o Q):Gets o (fun r=>P r∧Q r):=by
 obtain ⟨r,e,h⟩:=h
 exact ⟨r,e,h,k r e⟩
def abcd:List (List UInt8):=[[(97:UInt8)],[(98:UInt8)],[(99:UInt8)],[(100:UInt8)]]
def nmC (kind:Int) (n:Nat):List (List UInt8):=if kind=1 then abcd.take (n-1)++[[(121:UInt8)]] else [[(100:UInt8)],[(99:UInt8),(107:UInt8)],[(113:UInt8)]]
def ZME (c:QG):Prop:=(QG.ZoY c).map ZhU.Name=nmC (QG.Kind c) (QG.ZoY c).length
def ZMp (a:ZaF):Prop:=∀ c∈ZaF.Cells a,ZME c
theorem ZLr (s:Za) (nm:List UInt8) (tr:List Int):Has (Y3 s nm tr) (fun r=>ZME r.1):=by
 unfold Y3
 refine (Has.any _).bind fun r0 _=>(Has.any _).bind fun r1 _=>?_
 refine Has.loop (fun v=>v.1.map ZhU.Name=abcd.take v.1.length) rfl ?_
 rintro ⟨ps,k,c0,c1,c2,⟨⟩⟩ hI
 dsimp only at hI
 show Has (Xt nm tr r0 r1 ps k c0 c1 c2) _
 unfold Xt
 refine Has.ite ?_ ?_
 ·refine Has.at fun x _ hx=>(Has.any _).bind fun r2 _=>Has.guard (Has.ret ?_)
  rw [Int.toNat_natCast] at hx
  show (ps++[_]).map ZhU.Name=abcd.take (ps++[_]).length
  rw [List.map_append,hI,List.length_append,List.length_singleton,JI (show abcd[ps.length]?=some x from hx)]
  rfl
 ·refine Has.guard (Has.loop (fun _=>True) trivial ?_)
  rintro ⟨ar,j,d0,d1,d2,⟨⟩⟩ _
  show Has (Xr nm tr r0 r1 ps ar j d0 d1 d2) _
  unfold Xr
  refine Has.ite ((Has.any _).bind fun q _=>Has.ite (Has.ret trivial) ((Has.any _).bind fun q2 _=>Has.guard (Has.ret trivial))) (Has.ret ?_)
  show (ps++[_]).map ZhU.Name=nmC 1 (ps++[_]).length
  unfold nmC
  rw [if_pos rfl,List.map_append,hI,List.length_append,List.length_singleton,Nat.add_sub_cancel]
  rfl
theorem ZMk (s:Za) (nm:List UInt8) {kind:Int} (hk:kind≠1) (edge:Int):Has (Yq s nm kind edge) (fun r=>ZME r.1):=by
 unfold Yq
 have fin:∀ (p1 p2:Int) (l:List ZfN) (a b:Int),ZME ((nm,kind,[([(100:UInt8)],(1:Int),p1,Bool.false,()),([(99:UInt8),(107:UInt8)],(1:Int),p2,Bool.true,()),([(113:UInt8)],(2:Int),(0:Int),Bool.false,())],l,([]:List Int),a,b,()):QG):=fun p1 p2 l a b=>by
  show _=nmC kind 3
  unfold nmC
  rw [if_neg hk]
  rfl
 refine (Has.any _).bind fun r0 _=>(Has.any _).bind fun r1 _=>(Has.any _).bind fun r2 _=>(Has.any _).bind fun r3 _=>(Has.any _).bind fun r4 _=>(Has.any _).bind fun r5 _=>(Has.any _).bind fun r6 _=>?_
 exact Has.ite ((Has.any _).bind fun r7 _=>Has.guard (Has.ret (fin _ _ _ _ _))) (Has.ret (fin _ _ _ _ _))
theorem ZMX (s:Za):Has (Vf s) (fun r=>ZMp r.1):=by
 unfold Vf
 refine (ZLr _ _ _).bind fun r0 g0=>(ZLr _ _ _).bind fun r1 g1=>(ZLr _ _ _).bind fun r2 g2=>(ZLr _ _ _).bind fun r3 g3=>(ZLr _ _ _).bind fun r4 g4=>?_
 refine (ZMk _ _ (by omega) _).bind fun r5 g5=>(ZMk _ _ (by omega) _).bind fun r6 g6=>(ZMk _ _ (by omega) _).bind fun r7 g7=>Has.ret ?_
 intro c hc
 have hc:c∈[r0.fst,r1.fst,r2.fst,r3.fst,r4.fst,r5.fst,r6.fst,r7.fst]:=hc
 simp only [List.mem_cons,List.not_mem_nil,or_false] at hc
 rcases hc with rfl | rfl | rfl | rfl | rfl | rfl | rfl | rfl<;>assumption
theorem ZLb (s:Za) (most:Int) (wild:Bool):Has (Qz s most wild) (fun r=>ZMp (Zv.Library r.1)):=by
 unfold Qz
 refine (ZMX s).bind fun r0 h0=>(Has.any _).bind fun r1 _=>?_
 refine Has.loop (fun _=>True) trivial ?_
 rintro ⟨ws,n,c0,c1,c2,⟨⟩⟩ _
 show Has (Xy r0 r1 ws n c0 c1 c2) _
 unfold Xy
 exact Has.ite ((Has.any _).bind fun _ _=>(Has.any _).bind fun _ _=>Has.guard (Has.ret trivial)) (Has.ret h0)
theorem ZMW (s:Za):Has (Ztk s) (fun r=>ZMp (Zv.Library r.1)):=by
 unfold Ztk
 refine (Has.any _).bind fun r0 _=>(ZLb _ _ _).bind fun r1 h1=>(Has.any _).bind fun r2 _=>(Has.any _).bind fun r3 _=>?_
 repeat' first
  | exact Has.ret h1
  | refine Has.ite ?_ ?_
  | refine Has.guard ?_
  | refine Has.at fun _ _ _=>?_
  | refine (Has.any _).bind fun _ _=>?_
theorem ZMj (s:Za):Has (ZG5 s) (fun r=>ZMp (Zv.Library r.1)):=by
 unfold ZG5
 refine (Has.any _).bind fun r0 _=>?_
 refine Has.ite ((ZMW _).bind fun r h=>Has.ret h) ?_
 exact Has.ite (Has.ite ((ZLb _ _ _).bind fun r h=>Has.ret h) ((ZLb _ _ _).bind fun r h=>Has.ret h)) (Has.ite ((ZLb _ _ _).bind fun r h=>Has.ret h) ((ZLb _ _ _).bind fun r h=>Has.ret h))
theorem ZMR (s:Za):Has (ZHg s) (fun r=>ZMp (Zv.Library r.1)):=by
 unfold ZHg
 refine (ZMj _).bind fun r0 h0=>(Has.any _).bind fun r1 _=>(Has.any _).bind fun r2 _=>?_
 refine Has.ite ((ZLb _ _ _).bind fun r3 h3=>?_) ?_
 ·refine (Has.any _).bind fun _ _=>(Has.any _).bind fun _ _=>?_
  exact Has.ite (Has.ite ((Has.any _).bind fun _ _=>Has.ite ((Has.any _).bind fun _ _=>(Has.any _).bind fun _ _=>Has.ret h3) ((Has.any _).bind fun _ _=>Has.ret h3)) ((Has.any _).bind fun _ _=>Has.ret h3)) ((Has.any _).bind fun _ _=>Has.ret h3)
 ·refine (Has.any _).bind fun _ _=>(Has.any _).bind fun _ _=>?_
  exact Has.ite (Has.ite ((Has.any _).bind fun _ _=>Has.ite ((Has.any _).bind fun _ _=>(Has.any _).bind fun _ _=>Has.ret h0) ((Has.any _).bind fun _ _=>Has.ret h0)) ((Has.any _).bind fun _ _=>Has.ret h0)) ((Has.any _).bind fun _ _=>Has.ret h0)
theorem ZMm:ZMp (Zv.Library ZyF):=fun c hc=>by cases hc
theorem ZMH {b:Zv} {e:Zbk} (hb:Zyx b) (he:sm Zn2 e) (hN:ZMp (Zv.Library b)):Has (ZsB b e) (fun r=>ZMp (Zv.Library r.1)):=by
 obtain ⟨c,h2,h3⟩:=ZDW b e hb.1 he
 unfold ZsB
 rw [h2,Bq]
 by_cases hc:c=0
 ·obtain ⟨r,a1,a2,a3,a4⟩:=ZzN (h3 hc) he
  rw [if_pos hc,a2,Bq]
  exact .ret (by rw [show Zv.Library (r,(0:Int)).1=Zv.Library b from a4];exact hN)
 ·rw [if_neg hc]
  exact .ret ZMm
theorem ZMc {b:Zv} (hb:Zyx b) (hN:ZMp (Zv.Library b)) {l:List Zbk} (hl:∀ e∈l,sm Zn2 e):Gets (Ztf b l) (fun r=>Zyx r.1∧ZMp (Zv.Library r.1)):=by
 unfold Ztf
 rw [Zrz b hb.1,Bq]
 refine Gets.ite (fun _=>Gets.ite (fun _=>.ret ⟨ZxX,ZMm⟩) (fun h20=>?_)) (fun _=>.ret ⟨ZxX,ZMm⟩)
 rw [ZxG b hb.1,Bq]
 refine Gets.loop (fun v=>0≤v.1∧v.1≤20∧Zyx ((v.2.2.2.2.2.2.1,()),(v.2.2.2.2.2.2.2.1,v.2.2.2.2.2.2.2.2.1,v.2.2.2.2.2.2.2.2.2.1,()),v.2.2.2.2.2.2.2.2.2.2.1,())∧ZMp ((v.2.2.2.2.2.2.1,()):ZaF)) (fun v=>(20-v.1).toNat)
  ⟨Int.le_refl _,by dsimp only;omega,hb,hN⟩ ?_
 rintro ⟨i,c0,c1,c2,c3,c4,c5,c6,c7,c8,c9,⟨⟩⟩ ⟨i0,i1,i2,i3⟩
 dsimp only at i0 i1 i2 i3
 show Gets (Zsa l i c0 c1 c2 c3 c4 c5 c6 c7 c8 c9) _
 unfold Zsa
 have en:Wq (i+1)=i+1:=XD (by omega) (by omega)
 rw [en]
 refine Gets.ite (fun hi=>?_) (fun _=>.ret (show Zyx _∧ZMp _ from ⟨i2,i3⟩))
 refine .at i0 hi fun e he _=>?_
 refine ((ZxD _ _ i2 (hl e he)).ZMG (ZMH i2 (hl e he) i3)).bind fun q ⟨hq,hq2⟩=>?_
 refine Gets.ite (fun _=>?_) (fun _=>.ret (show Zyx _∧ZMp _ from ⟨ZxX,ZMm⟩))
 exact .ret ⟨⟨by dsimp only;omega,by dsimp only;omega,hq,hq2⟩,by dsimp only;omega⟩
/-
  Plain laws: the reference's timing has an answer.
-/
theorem ZLo {a b m:Int} (hb:b≠0):Gets (ZKP a b m) (fun _=>True):=by
 unfold ZKP
 refine .guard hb ?_
 repeat' first
  | exact .ret trivial
  | refine Gets.ite (fun _=>?_) (fun _=>?_)
structure WtG (l:List Int) (j a b:Int):Prop where
 j0:0≤j
 jl:j<l.length
 jb:0<b→j+1<l.length
 a0:0<a
 b0:0≤b
 ab:a+b≤100000
theorem ZLU {l:List Int} (h:Zt5 l) (x:Int):Gets (ZKE l x) (fun r=>WtG l r.1 r.2.1 r.2.2):=by
 obtain ⟨l1,l4,hin,_⟩:=h
 unfold ZKE
 refine .at (Int.le_refl _) (by omega) fun x1 hx1 hx1'=>?_
 have en:Wq ((l.length:Int)-1)=(l.length:Int)-1:=XD (by omega) (by omega)
 rw [en]
 refine .at (by omega) (by omega) fun x2 hx2 hx2'=>?_
 have b1:=hin x1 hx1
 have b2:=hin x2 hx2
 have hd:∀ (i0:Int),ZKy l x x1 x2 i0=if (0:Int)≤i0 then
   (atI l i0).bind fun x3 =>
   if Min.min (Max.max x x1) x2=x3 then
    some (.inr (i0,(1:Int),(0:Int)))
   else
    if x3<Min.min (Max.max x x1) x2 then
     (atI l (Wq (i0+(1:Int)))).bind fun x4 =>
     some (.inr (i0,Wq (x4-Min.min (Max.max x x1) x2),Wq (Min.min (Max.max x x1) x2-x3)))
    else
     some (.inl (Wq (i0-(1:Int)),()))
  else
   some (.inr ((0:Int),(1:Int),(0:Int))):=fun i0=>rfl
 have hc2:Min.min (Max.max x x1) x2≤x2:=by omega
 generalize Min.min (Max.max x x1) x2=c at hd hc2
 refine Gets.loop (fun v=>-1≤v.1∧v.1<(l.length:Int)∧∀ y,l[(v.1+1).toNat]?=some y→c<y) (fun v=>(v.1+1).toNat) ⟨by dsimp only;omega,by dsimp only;omega,fun y hy=>?_⟩ ?_
 ·dsimp only at hy
  have:=(List.getElem?_eq_some_iff.1 hy).1
  omega
 rintro ⟨i,⟨⟩⟩ ⟨i0,i1,i2⟩
 dsimp only at i0 i1 i2
 show Gets (ZKy l x x1 x2 i) _
 rw [hd]
 refine Gets.ite (fun hi=>?_) (fun _=>.ret (show WtG l 0 1 0 from ⟨Int.le_refl _,by omega,fun q=>by omega,by omega,Int.le_refl _,by omega⟩))
 refine .at hi i1 fun x3 hx3 hx3'=>?_
 refine Gets.ite (fun _=>.ret (show WtG l i 1 0 from ⟨hi,i1,fun q=>by omega,by omega,Int.le_refl _,by omega⟩)) (fun hne=>?_)
 have e1:Wq (i+1)=i+1:=XD (by omega) (by omega)
 have e2:Wq (i-1)=i-1:=XD (by omega) (by omega)
 rw [e1,e2]
 refine Gets.ite (fun hlt=>?_) (fun hge=>?_)
 ·have hlast:i+1<(l.length:Int):=by
   refine Classical.byContradiction fun q=>?_
   have:i.toNat=((l.length:Int)-1).toNat:=by omega
   rw [this,hx2'] at hx3'
   injection hx3' with hx3'
   omega
  refine .at (by omega) hlast fun x4 hx4 hx4'=>?_
  have b3:=hin x3 hx3
  have b4:=hin x4 hx4
  have:=i2 x4 hx4'
  rw [XD (n:=x4-c) (by omega) (by omega),XD (n:=c-x3) (by omega) (by omega)]
  exact .ret (show WtG l i (x4-c) (c-x3) from ⟨hi,i1,fun _=>hlast,by omega,by omega,by omega⟩)
 ·refine .ret ⟨⟨by dsimp only;omega,by dsimp only;omega,fun y hy=>?_⟩,by dsimp only;omega⟩
  dsimp only at hy
  rw [show i-1+1=i by omega,hx3'] at hy
  injection hy with hy
  omega
theorem ZMA {t:Jy} (h:Ztm t) {j k v1 v3 A C:Int} (hv1:v1=0∨v1=1) (hv3:v3=0∨v3=1) (j0:0≤j) (j4:j≤4) (hA:0<A→j+v1<(Jy.ZoG t).length) (k0:0≤k) (hC:0<C→k+v3<(Jy.Loads t).length) (A0:0≤A) (A1:A≤100000) (C0:0≤C) (C1:C≤100000) (hp:0<Wq (A*C)) :
  0≤Wq (Wq (Wq (Wq (j+v1)*(↑(List.length (Jy.Loads t)):Int))+k)+v3)∧Wq (Wq (Wq (Wq (j+v1)*(↑(List.length (Jy.Loads t)):Int))+k)+v3)<((Jy.Values t).length:Int):=by
 have p:=ZFw A0 A1 C0 C1
 rw [XD (n:=A*C) (by omega) (by omega)] at hp
 have ha:0<A:=by
  refine Classical.byContradiction fun z=>?_
  rw [show A=0 by omega,Int.zero_mul] at hp;omega
 have hc:0<C:=by
  refine Classical.byContradiction fun z=>?_
  rw [show C=0 by omega,Int.mul_zero] at hp;omega
 have i1:=hA ha
 have k1:=hC hc
 obtain ⟨h1,h2,h3,h4⟩:=h
 have hl1:=h1.2.1
 have hl2:=h2.2.1
 rw [XD (n:=j+v1) (by omega) (by omega)]
 have i0:0≤j+v1:=by omega
 generalize j+v1=i at i1 i0
 have b:=ZFw i0 (show i≤4 by omega) (show (0:Int)≤((Jy.Loads t).length:Int) by omega) (show ((Jy.Loads t).length:Int)≤4 by omega)
 have e:=Int.mul_le_mul_of_nonneg_right (show i+1≤((Jy.ZoG t).length:Int) by omega) (show (0:Int)≤((Jy.Loads t).length:Int) by omega)
 rw [Int.add_mul,Int.one_mul] at e
 rw [XD (n:=i*((Jy.Loads t).length:Int)) (by omega) (by omega),XD (n:=i*((Jy.Loads t).length:Int)+k) (by omega) (by omega),XD (n:=i*((Jy.Loads t).length:Int)+k+v3) (by omega) (by omega),h3,Int.natCast_mul]
 omega
theorem ZMw {t:Jy} (h:Ztm t) (s l m:Int):Gets (ZKV t s l m) (fun _=>True):=by
 have hl1:=h.1.2.1
 have hl2:=h.2.1.2.1
 unfold ZKV
 refine (ZLU h.1 s).bind fun w0 hw0=>(ZLU h.2.1 l).bind fun w1 hw1=>?_
 have j1:=hw0.ab;have j2:=hw0.a0;have j3:=hw0.b0;have j4:=hw0.j0;have j5:=hw0.jl;have j6:=hw0.jb
 have k1:=hw1.ab;have k2:=hw1.a0;have k3:=hw1.b0;have k4:=hw1.j0;have k5:=hw1.jl;have k6:=hw1.jb
 refine Gets.loop (fun v=>0≤v.2.1∧v.2.1≤2) (fun v=>(2-v.2.1).toNat) ⟨Int.le_refl _,by dsimp only;omega⟩ ?_
 rintro ⟨sum,v1,⟨⟩⟩ ⟨a0,a1⟩
 dsimp only at a0 a1
 show Gets (ZKK t m w0 w1 sum v1) _
 unfold ZKK
 refine Gets.ite (fun h2=>?_) (fun _=>?_)
 ·refine Gets.loop (fun v=>0≤v.2.1∧v.2.1≤2) (fun v=>(2-v.2.1).toNat) ⟨Int.le_refl _,by dsimp only;omega⟩ ?_
  rintro ⟨v2,v3,⟨⟩⟩ ⟨c0,c1⟩
  dsimp only at c0 c1
  show Gets (ZKJ t w0 w1 v1 v2 v3) _
  unfold ZKJ
  have e3:Wq (v3+1)=v3+1:=XD (by omega) (by omega)
  have e1:Wq (v1+1)=v1+1:=XD (by omega) (by omega)
  simp only [e3,e1]
  refine Gets.ite (fun h3=>?_) (fun _=>.ret ⟨⟨by dsimp only;omega,by dsimp only;omega⟩,by dsimp only;omega⟩)
  refine Gets.ite (fun q1=>?_) (fun q1=>?_)
  ·refine Gets.ite (fun q3=>?_) (fun q3=>?_)
   ·refine Gets.ite (fun hp=>?_) (fun _=>.ret ⟨⟨by dsimp only;omega,by dsimp only;omega⟩,by dsimp only;omega⟩)
    obtain ⟨z0,z1⟩:=ZMA h (j:=w0.1) (k:=w1.1) (v1:=v1) (v3:=v3) (.inr q1) (.inl q3) j4 (by omega) (fun q=>by have:=j6 q;omega) k4 (fun q=>by omega) j3 (by omega) (by omega) (by omega) hp
    exact .at z0 z1 fun _ _ _=>.ret ⟨⟨by dsimp only;omega,by dsimp only;omega⟩,by dsimp only;omega⟩
   ·refine Gets.ite (fun hp=>?_) (fun _=>.ret ⟨⟨by dsimp only;omega,by dsimp only;omega⟩,by dsimp only;omega⟩)
    obtain ⟨z0,z1⟩:=ZMA h (j:=w0.1) (k:=w1.1) (v1:=v1) (v3:=v3) (.inr q1) (.inr (by omega)) j4 (by omega) (fun q=>by have:=j6 q;omega) k4 (fun q=>by have:=k6 q;omega) j3 (by omega) k3 (by omega) hp
    exact .at z0 z1 fun _ _ _=>.ret ⟨⟨by dsimp only;omega,by dsimp only;omega⟩,by dsimp only;omega⟩
  ·refine Gets.ite (fun q3=>?_) (fun q3=>?_)
   ·refine Gets.ite (fun hp=>?_) (fun _=>.ret ⟨⟨by dsimp only;omega,by dsimp only;omega⟩,by dsimp only;omega⟩)
    obtain ⟨z0,z1⟩:=ZMA h (j:=w0.1) (k:=w1.1) (v1:=v1) (v3:=v3) (.inl (by omega)) (.inl q3) j4 (by omega) (fun q=>by omega) k4 (fun q=>by omega) (by omega) (by omega) (by omega) (by omega) hp
    exact .at z0 z1 fun _ _ _=>.ret ⟨⟨by dsimp only;omega,by dsimp only;omega⟩,by dsimp only;omega⟩
   ·refine Gets.ite (fun hp=>?_) (fun _=>.ret ⟨⟨by dsimp only;omega,by dsimp only;omega⟩,by dsimp only;omega⟩)
    obtain ⟨z0,z1⟩:=ZMA h (j:=w0.1) (k:=w1.1) (v1:=v1) (v3:=v3) (.inl (by omega)) (.inr (by omega)) j4 (by omega) (fun q=>by omega) k4 (fun q=>by have:=k6 q;omega) (by omega) (by omega) k3 (by omega) hp
    exact .at z0 z1 fun _ _ _=>.ret ⟨⟨by dsimp only;omega,by dsimp only;omega⟩,by dsimp only;omega⟩
 ·have p:=ZFw (show 0≤w0.2.1+w0.2.2 by omega) (show w0.2.1+w0.2.2≤100000 by omega) (show 0≤w1.2.1+w1.2.2 by omega) (show w1.2.1+w1.2.2≤100000 by omega)
  have pp:=Int.mul_pos (show 0<w0.2.1+w0.2.2 by omega) (show 0<w1.2.1+w1.2.2 by omega)
  rw [XD (n:=w0.2.1+w0.2.2) (by omega) (by omega),XD (n:=w1.2.1+w1.2.2) (by omega) (by omega),XD (n:=(w0.2.1+w0.2.2)*(w1.2.1+w1.2.2)) (by omega) (by omega)]
  exact (ZLo (by omega)).bind fun _ _=>.ret trivial
theorem ZML (n m:Int):Gets (ZK1 n m) (fun _=>True):=by
 unfold ZK1
 refine Gets.loop (fun v=>0≤v.1∧v.1≤v.2.1∧v.2.1≤2000000000) (fun v=>(v.2.1-v.1).toNat) ⟨Int.le_refl _,by dsimp only;omega,by dsimp only;omega⟩ ?_
 rintro ⟨lo,hi,⟨⟩⟩ ⟨i0,i1,i2⟩
 dsimp only at i0 i1 i2
 show Gets (ZKL n m lo hi) _
 unfold ZKL
 have em:Wq (Int.tdiv (Wq (Wq (lo+hi)+(1:Int))) (2:Int))=(lo+hi+1) / 2:=by
  rw [XD (n:=lo+hi) (by omega) (by omega),XD (n:=lo+hi+1) (by omega) (by omega),Int.tdiv_eq_ediv_of_nonneg (by omega),XD (by omega) (by omega)]
 have e2:Wq ((lo+hi+1) / 2-1)=(lo+hi+1) / 2-1:=XD (by omega) (by omega)
 simp only [em,e2]
 refine Gets.ite (fun hlt=>?_) (fun _=>?_)
 ·refine Gets.ite (fun _=>?_) (fun _=>?_)
  ·exact .ret ⟨⟨by dsimp only;omega,by dsimp only;omega,by dsimp only;omega⟩,by dsimp only;omega⟩
  ·exact .ret ⟨⟨by dsimp only;omega,by dsimp only;omega,by dsimp only;omega⟩,by dsimp only;omega⟩
 ·exact Gets.ite (fun _=>Gets.ite (fun _=>.ret trivial) (fun _=>.ret trivial)) (fun _=>.ret trivial)
theorem ZMQ {a:ZaF} {d:Zp} (h:Zqm a d) {x:Pl} (hx:x∈places d):Gets (ZE0 a d x) (fun _=>True):=by
 unfold ZE0
 split
 ·exact .ret trivial
 ·rename_i hneg
  unfold places at hx
  rcases List.mem_append.1 hx with hx | hx
  ·obtain ⟨i,z,hi,hz⟩:=Zug.1 hx
   unfold ZeJ at hz
   obtain ⟨j,n,hj,hn⟩:=Zug.1 hz
   simp only [List.mem_singleton] at hn
   subst hn
   rw [Nat.zero_add] at hneg
   obtain ⟨hc,⟨c,hc1,hc2⟩,_⟩:=h.2.2.1 z (List.mem_of_getElem? hi)
   have hj2:=(List.getElem?_eq_some_iff.1 hj).1
   have hp:(QG.ZoY c)[j]?=some ((QG.ZoY c)[j]'(by omega)):=List.getElem?_eq_getElem _
   simp only [Zk.instance,Zk.pin,Nat.zero_add,VU,hi,Bq]
   rw [Zkf hc.1 hc1,Bq,hp,Bq]
   exact .ret trivial
  ·obtain ⟨j,p,hj,hp⟩:=Zug.1 hx
   simp only [ZdA,List.mem_singleton] at hp
   subst hp
   exact absurd (by show (-1:Int)<0;omega) hneg
theorem ZMf {b:Zv} (h:ZqJ b) {k:Nat} {w:QH} (hw:(Zv.ZlA b)[k]?=some w):Gets (ZEe b (k:Int)) (fun r=>r.length=(QH.Parent w).length):=by
 obtain ⟨⟨l1,l8⟩,lr,lc,ls,ht,ar,ac,asn⟩:=h.ok.2.2 k w hw
 have hD:=h.ok.1
 have hf:=hD.few
 have hsl:=Zgm (k:Int) (places (Zv.Design b)) 0
 have hpl:=Zck hf
 have hsl2:(sinks (Zv.Design b) (k:Int)).length≤78:=by unfold sinks;omega
 unfold ZEe
 rw [VU,hw,Bq,ZgS _ (by omega),Bq,JF _ hf,Bq,ZcT _ _ hf,Bq]
 refine Gets.loop (fun v=>0≤v.1∧v.1≤((sinks (Zv.Design b) (k:Int)).length:Int)∧v.2.1.length=(QH.Parent w).length) (fun v=>(((sinks (Zv.Design b) (k:Int)).length:Int)-v.1).toNat) ⟨Int.le_refl _,by dsimp only;omega,lc⟩ ?_
 rintro ⟨i,l,⟨⟩⟩ ⟨i0,i1,i2⟩
 dsimp only at i0 i1 i2
 show Gets (ZEh b w (places (Zv.Design b)) (sinks (Zv.Design b) (k:Int)) i l) _
 unfold ZEh
 have ei:Wq (i+1)=i+1:=XD (by omega) (by omega)
 rw [ei]
 refine Gets.ite (fun hi=>?_) (fun _=>?_)
 ·refine .at i0 (by omega) fun z hz _=>?_
  have hz2:=asn z hz
  refine .at hz2.1 (by omega) fun q _ _=>?_
  refine .at i0 hi fun y hy _=>?_
  have hy2:=ZFv hy
  refine .at hy2.1 hy2.2 fun p hp _=>?_
  refine (ZMQ hD hp).bind fun c _=>?_
  exact .ret ⟨⟨by dsimp only;omega,by dsimp only;omega,by dsimp only;rw [List.length_set];exact i2⟩,by dsimp only;omega⟩
 ·have en:Wq ((l.length:Int)-1)=(l.length:Int)-1:=XD (by omega) (by omega)
  rw [en]
  refine Gets.loop (fun v=>0≤v.1∧v.1<((QH.Parent w).length:Int)∧v.2.1.length=(QH.Parent w).length) (fun v=>v.1.toNat) ⟨by dsimp only;omega,by dsimp only;omega,i2⟩ ?_
  rintro ⟨j,l',⟨⟩⟩ ⟨j0,j1,j2⟩
  dsimp only at j0 j1 j2
  show Gets (ZEo w j l') _
  unfold ZEo
  have ej:Wq (j-1)=j-1:=XD (by omega) (by omega)
  rw [ej]
  refine Gets.ite (fun hj=>?_) (fun _=>.ret (show l'.length=_ from j2))
  refine .at j0 j1 fun p _ hp=>?_
  have hp2:=(ht _ p hp).2 (by omega)
  refine .at hp2.1 (by omega) fun _ _ _=>.at j0 (by omega) fun _ _ _=>?_
  exact .ret ⟨⟨by dsimp only;omega,by dsimp only;omega,by dsimp only;rw [List.length_set];exact j2⟩,by dsimp only;omega⟩
theorem ZL6 {b:Zv} (h:ZqJ b) {k:Nat} {w:QH} (hw:(Zv.ZlA b)[k]?=some w):Gets (ZEf b (k:Int)) (fun r=>r.length=(QH.Parent w).length):=by
 obtain ⟨⟨l1,l8⟩,lr,lc,ls,ht,ar,ac,asn⟩:=h.ok.2.2 k w hw
 unfold ZEf
 rw [VU,hw,Bq]
 refine (ZMf h hw).bind fun ld hld=>?_
 refine Gets.loop (fun v=>1≤v.2.1∧v.2.1≤((QH.Parent w).length:Int)∧(v.1.length:Int)=v.2.1) (fun v=>(((QH.Parent w).length:Int)-v.2.1).toNat) ⟨Int.le_refl _,by dsimp only;omega,rfl⟩ ?_
 rintro ⟨out,i,⟨⟩⟩ ⟨i0,i1,i2⟩
 dsimp only at i0 i1 i2
 show Gets (ZEc w ld out i) _
 unfold ZEc
 have ei:Wq (i+1)=i+1:=XD (by omega) (by omega)
 rw [ei]
 refine Gets.ite (fun hi=>?_) (fun _=>.ret (show out.length=_ by omega))
 refine .at (by omega) (by omega) fun p _ hp=>?_
 have hp2:=(ht _ p hp).2 (by omega)
 refine .at hp2.1 (by omega) fun _ _ _=>.at (by omega) (by omega) fun _ _ _=>.at (by omega) hi fun _ _ _=>?_
 exact .guard (by simp only [List.length_cons,List.length_nil];omega) (.ret ⟨⟨by dsimp only;omega,by dsimp only;omega,by dsimp only;simp only [List.length_append,List.length_cons,List.length_nil];omega⟩,by dsimp only;omega⟩)
theorem ZMa {b:Zv} (h:ZqJ b) {k:Nat} {w:QH} (hw:(Zv.ZlA b)[k]?=some w) (m:Int):Gets (ZKA b (k:Int) m) (fun r=>r.length=(QH.ZnH w).length):=by
 obtain ⟨⟨l1,l8⟩,lr,lc,ls,ht,ar,ac,asn⟩:=h.ok.2.2 k w hw
 have hsl:=Zgm (k:Int) (places (Zv.Design b)) 0
 have hpl:=Zck h.ok.1.few
 have hsl2:(sinks (Zv.Design b) (k:Int)).length≤78:=by unfold sinks;omega
 unfold ZKA
 refine (ZL6 h hw).bind fun dl hdl=>?_
 refine Gets.loop (fun v=>0≤v.2.1∧v.2.1≤((QH.ZnH w).length:Int)∧(v.1.length:Int)=v.2.1) (fun v=>(((QH.ZnH w).length:Int)-v.2.1).toNat) ⟨Int.le_refl _,by dsimp only;omega,rfl⟩ ?_
 rintro ⟨out,i,⟨⟩⟩ ⟨i0,i1,i2⟩
 dsimp only at i0 i1 i2
 show Gets (ZKv b (k:Int) m dl out i) _
 unfold ZKv
 have ei:Wq (i+1)=i+1:=XD (by omega) (by omega)
 rw [VU,hw,Bq,ei]
 refine Gets.ite (fun hi=>?_) (fun _=>.ret (show out.length=_ by omega))
 refine .at i0 hi fun z hz _=>?_
 have hz2:=asn z hz
 refine .at hz2.1 (by omega) fun _ _ _=>(ZLo (by omega)).bind fun _ _=>?_
 exact .guard (by simp only [List.length_cons,List.length_nil];omega) (.ret ⟨⟨by dsimp only;omega,by dsimp only;omega,by dsimp only;simp only [List.length_append,List.length_cons,List.length_nil];omega⟩,by dsimp only;omega⟩)
theorem ZMo {b:Zv} (h:ZqJ b) {k:Nat} {w:QH} (hw:(Zv.ZlA b)[k]?=some w) {j:Nat} (hj:j<(QH.ZnH w).length) (s m:Int):Gets (ZK2 b (k:Int) (j:Int) s m) (fun _=>True):=by
 obtain ⟨⟨l1,l8⟩,lr,lc,ls,ht,ar,ac,asn⟩:=h.ok.2.2 k w hw
 unfold ZK2
 rw [VU,hw,Bq]
 refine .at (by omega) (by omega) fun z hz _=>?_
 have hz2:=asn z hz
 refine (ZL6 h hw).bind fun dl hdl=>.at hz2.1 (by omega) fun _ _ _=>?_
 exact (ZML _ _).bind fun _ _=>(ZLo (by omega)).bind fun _ _=>.ret trivial
theorem ZMB {b:Zv} {x:Ze4} {y:Pl} {n:Nat} (hd:ZMO b x y n):atI (places (Zv.Design b)) (Wq (Int.tdiv (Ze4.To x) (2:Int)))=some y:=by
 have h0:=hd.to0
 have h1:=hd.to1
 rw [Int.tdiv_eq_ediv_of_nonneg h0,XD (by omega) (by omega)]
 exact Zkf (by omega) hd.place
theorem ZMM {l:List Jy} (h:ZtB l true) {n:Int} (hn:0≤n):∃ t,atI l (Int.tmod n (2:Int))=some t∧Ztm t:=by
 have e:0≤Int.tmod n 2∧Int.tmod n 2<2:=by rw [Int.tmod_eq_emod_of_nonneg hn];omega
 obtain ⟨t,h1,h2⟩:=ZFx (l:=l) e.1 (by rw [h.1];exact e.2)
 exact ⟨t,h1,(h.2 t h2).1⟩
theorem ZNm {b:Zv} (h:ZqJ b) {x:Ze4} {y:Pl} {n:Nat} (hd:ZMO b x y n):ZK0 b x=some (n:Int):=by
 unfold ZK0
 rw [JF _ h.ok.1.few,Bq,ZMB hd,Bq,←hd.net]
theorem ZNj {b:Zv} (h:ZqJ b) {x:Ze4} {y:Pl} {n:Nat} (hd:ZMO b x y n) (hc:ZMZ b x y):Gets (ZKZ b x) (fun r=>ZtB (ZfN.Delay r.1) true∧ZtB (ZfN.Znd r.1) true):=by
 obtain ⟨_,i,u,c,k,a,hy,hu,hu0,hcc,ha,hix,t1,t2⟩:=hc
 have hw:(Zv.ZlA b)[n]?=some ((Zv.ZlA b)[n]'(hd.few)):=List.getElem?_eq_getElem _
 obtain ⟨⟨l1,l8⟩,_⟩:=h.ok.2.2 n _ hw
 unfold ZKZ
 rw [JF _ h.ok.1.few,Bq,ZMB hd,Bq]
 rw [show Zk.instance y=y.1 from rfl,hy,VU,hu,Bq,Zkf hu0 hcc,Bq,hix,VU,ha,Bq,show Zk.net y=y.2.2.1 from rfl,hd.net]
 refine (ZMf h hw).bind fun ld hld=>.at (Int.le_refl _) (by omega) fun _ _ _=>.ret ⟨t1,t2⟩
theorem ZL7 (c:Qj) (k m:Int):Gets (ZKQ c k m) (fun _=>True):=by
 unfold ZKQ
 exact Gets.ite (fun _=>Gets.ite (fun _=>.ret trivial) (fun _=>.ret trivial)) (fun _=>Gets.ite (fun _=>.ret trivial) (fun _=>.ret trivial))
theorem ZLe {b:Zv} (h:ZqJ b) {x:Ze4} (hx:x∈ZGm b) (c:Qj) (s m:Int):Gets (ZKB b c x s m) (fun _=>True):=by
 obtain ⟨y,n,hd⟩:=ZMv h hx
 have h0:=hd.to0
 unfold ZKB
 refine Gets.ite (fun k1=>?_) (fun k1=>?_)
 ·rcases hd.kind with hc | hc
  ·refine (ZNj h hd hc).bind fun r ⟨t1,_⟩=>?_
   obtain ⟨t,e,ht⟩:=ZMM t1 h0
   rw [show atI r.fst.snd.snd.snd.snd.fst (Int.tmod (Ze4.To x) 2)=some t from e,Bq]
   exact (ZMw ht _ _ _).bind fun _ _=>(ZL7 _ _ _).bind fun _ _=>(ZLo (by omega)).bind fun _ _=>.ret trivial
  ·have:=hc.1;omega
 ·rcases hd.kind with hc | hc
  ·exact absurd hc.1 k1
  ·obtain ⟨_,w,j,z,hw,hix,hz⟩:=hc
   have hj:=(List.getElem?_eq_some_iff.1 hz).1
   rw [ZNm h hd,Bq]
   refine (ZMa h hw m).bind fun r hr=>?_
   rw [hix]
   exact .at (by omega) (by omega) fun _ _ _=>(ZL7 _ _ _).bind fun _ _=>(ZLo (by omega)).bind fun _ _=>.ret trivial
theorem ZLt {b:Zv} (h:ZqJ b) {x:Ze4} (hx:x∈ZGm b) (s m:Int):Gets (ZKM b x s m) (fun _=>True):=by
 obtain ⟨y,n,hd⟩:=ZMv h hx
 have h0:=hd.to0
 unfold ZKM
 refine Gets.ite (fun k1=>?_) (fun k1=>?_)
 ·rcases hd.kind with hc | hc
  ·refine (ZNj h hd hc).bind fun r ⟨_,t1⟩=>?_
   obtain ⟨t,e,ht⟩:=ZMM t1 h0
   rw [show atI r.fst.snd.snd.snd.snd.snd.fst (Int.tmod (Ze4.To x) 2)=some t from e,Bq]
   exact (ZMw ht _ _ _).bind fun _ _=>.ret trivial
  ·have:=hc.1;omega
 ·rcases hd.kind with hc | hc
  ·exact absurd hc.1 k1
  ·obtain ⟨_,w,j,z,hw,hix,hz⟩:=hc
   have hj:=(List.getElem?_eq_some_iff.1 hz).1
   rw [ZNm h hd,Bq,hix]
   exact (ZMo h hw hj s m).bind fun _ _=>.ret trivial
theorem ZMD {b:Zv} (h:ZqJ b) {x:Ze4} (hx:x∈ZGm b) (c:Qj) (s:Vz):Gets (ZKY b c x s) (fun _=>True):=by
 unfold ZKY
 exact (ZLe h hx _ _ _).bind fun _ _=>(ZLe h hx _ _ _).bind fun _ _=>(ZLt h hx _ _).bind fun _ _=>(ZLt h hx _ _).bind fun _ _=>(ZLe h hx _ _ _).bind fun _ _=>(ZLe h hx _ _ _).bind fun _ _=>(ZLt h hx _ _).bind fun _ _=>(ZLt h hx _ _).bind fun _ _=>.ret trivial
def ZNi (n:Nat) (t:ZbZ):Prop:=(ZbZ.Reached t).length=n∧(ZbZ.Zlz t).length=n∧(ZbZ.Znd t).length=n
theorem ZMK {b:Zv} (h:ZqJ b) (c:Qj) {lv:List Bool} (hlv:lv.length=(ZGm b).length) {src:List ZbY} (hs:src.length≤1048576) {t:ZbZ} (ht:ZNi (2*(places (Zv.Design b)).length) t) (node:Int):Gets (ZK4 b c (ZGm b) lv src t node) (fun _=>True):=by
 obtain ⟨t1,t2,t3⟩:=ht
 have hLs:=ZHM h
 unfold ZK4
 refine Gets.loop (fun v=>0≤v.2.1∧v.2.1≤(src.length:Int)) (fun v=>((src.length:Int)-v.2.1).toNat) ⟨Int.le_refl _,by dsimp only;omega⟩ ?_
 rintro ⟨v0,i,c0,c1,c2,c3,c4,⟨⟩⟩ ⟨i0,i1⟩
 dsimp only at i0 i1
 show Gets (ZKO b c (ZGm b) lv src t node v0 i c0 c1 c2 c3 c4) _
 unfold ZKO
 have ei:Wq (i+1)=i+1:=XD (by omega) (by omega)
 rw [ei]
 refine Gets.ite (fun hi=>?_) (fun _=>?_)
 ·refine .at i0 hi fun x _ _=>Gets.ite (fun _=>?_) (fun _=>?_)
  ·exact .ret ⟨⟨by dsimp only;omega,by dsimp only;omega⟩,by dsimp only;omega⟩
  ·exact .ret ⟨⟨by dsimp only;omega,by dsimp only;omega⟩,by dsimp only;omega⟩
 ·refine Gets.loop (fun v=>0≤v.2.1∧v.2.1≤((ZGm b).length:Int)) (fun v=>(((ZGm b).length:Int)-v.2.1).toNat) ⟨Int.le_refl _,by dsimp only;omega⟩ ?_
  rintro ⟨w0,k,d0,d1,d2,d3,d4,⟨⟩⟩ ⟨k0,k1⟩
  dsimp only at k0 k1
  show Gets (ZKN b c (ZGm b) lv t node w0 k d0 d1 d2 d3 d4) _
  unfold ZKN
  have ek:Wq (k+1)=k+1:=XD (by omega) (by omega)
  rw [ek]
  refine Gets.ite (fun hk=>?_) (fun _=>.ret trivial)
  refine .at k0 hk fun x hx _=>?_
  have hb:=ZH3 h hx
  refine .at k0 (by omega) fun _ _ _=>Gets.ite (fun _=>?_) (fun _=>.ret ⟨⟨by dsimp only;omega,by dsimp only;omega⟩,by dsimp only;omega⟩)
  refine Gets.ite (fun _=>?_) (fun _=>.ret ⟨⟨by dsimp only;omega,by dsimp only;omega⟩,by dsimp only;omega⟩)
  refine .at hb.1.1 (by omega) fun _ _ _=>Gets.ite (fun _=>?_) (fun _=>.ret ⟨⟨by dsimp only;omega,by dsimp only;omega⟩,by dsimp only;omega⟩)
  refine .at hb.1.1 (by omega) fun _ _ _=>(ZMD h hx c _).bind fun _ _=>.at hb.1.1 (by omega) fun _ _ _=>?_
  refine Gets.ite (fun _=>?_) (fun _=>.ret ⟨⟨by dsimp only;omega,by dsimp only;omega⟩,by dsimp only;omega⟩)
  unfold ZK3
  rw [Bq,Bq]
  exact .ret ⟨⟨by dsimp only;omega,by dsimp only;omega⟩,by dsimp only;omega⟩
theorem ZLn (s:Vz):Gets (ZKU s) (fun _=>True):=by
 unfold ZKU
 rw [ZrJ,Bq]
 refine Gets.ite (fun _=>?_) (fun _=>.ret trivial)
 rw [ZrJ,Bq]
 exact Gets.ite (fun _=>.ret trivial) (fun _=>.ret trivial)
theorem ZMT {b:Zv} (h:ZqJ b) (c:Qj) {lv:List Bool} (hlv:lv.length=(ZGm b).length) {src:List ZbY} (hs:src.length≤1048576) {order:List Int} (ho:∀ y∈order,0≤y∧y<((2*(places (Zv.Design b)).length:Nat):Int)) (hol:order.length≤1048576):Gets (ZK7 b c (ZGm b) lv src order) (fun _=>True):=by
 have hpl:=Zck h.ok.1.few
 unfold ZK7 ZK6
 rw [ZIf h.ok.1.few,Bq]
 rw [ZB (by omega),ZB (Int.le_refl _),ZB (by omega),ZB (by omega),ZB (by omega),Bq]
 refine Gets.loop (fun v=>0≤v.1∧v.1≤(order.length:Int)∧ZNi (2*(places (Zv.Design b)).length) (v.2.2.2.2.1,v.2.2.2.2.2.1,v.2.2.2.2.2.2.1,())) (fun v=>((order.length:Int)-v.1).toNat) ⟨Int.le_refl _,by dsimp only;omega,by simp only [ZbZ.Reached,List.length_replicate];omega,by simp only [ZbZ.Zlz,List.length_replicate];omega,by simp only [ZbZ.Znd,List.length_replicate];omega⟩ ?_
 rintro ⟨i,c0,c1,c2,l0,l1,l2,⟨⟩⟩ ⟨i0,i1,i2⟩
 dsimp only at i0 i1 i2
 have q0:l0.length=2*(places (Zv.Design b)).length:=i2.1
 have q1:l1.length=2*(places (Zv.Design b)).length:=i2.2.1
 have q2:l2.length=2*(places (Zv.Design b)).length:=i2.2.2
 show Gets (ZKR b c (ZGm b) lv src order i c0 c1 c2 l0 l1 l2) _
 unfold ZKR
 have ei:Wq (i+1)=i+1:=XD (by omega) (by omega)
 rw [ei]
 refine Gets.ite (fun hi=>?_) (fun _=>.ret trivial)
 refine .at i0 hi fun x hx _=>?_
 have hxb:=ho x hx
 refine (ZMK h c hlv hs i2 x).bind fun r _=>?_
 refine Gets.ite (fun _=>?_) (fun _=>.ret ⟨⟨by dsimp only;omega,by dsimp only;omega,i2⟩,by dsimp only;omega⟩)
 refine (ZLn _).bind fun _ _=>Gets.ite (fun _=>?_) (fun _=>.ret trivial)
 refine .at hxb.1 (by omega) fun _ _ _=>.at hxb.1 (by omega) fun _ _ _=>.at hxb.1 (by omega) fun _ _ _=>?_
 refine .ret ⟨⟨by dsimp only;omega,by dsimp only;omega,?_,?_,?_⟩,by dsimp only;omega⟩
 ·show (List.set l0 _ _).length=_;rw [List.length_set];exact q0
 ·show (List.set l1 _ _).length=_;rw [List.length_set];exact q1
 ·show (List.set l2 _ _).length=_;rw [List.length_set];exact q2
theorem ZMC {N:Nat} {L:List Ze4} {lv:List Bool} (hNs:N≤1000) (hL:InN N L) (hLs:L.length≤6000) (hlv:lv.length=L.length):Gets (ZKX (N:Int) L lv) (fun r=>r.1.length≤N∧∀ y∈r.1,0≤y∧y<(N:Int)):=by
 unfold ZKX
 refine .guard (by omega) (.guard (Int.le_refl _) (.guard (by omega) (.guard (by omega) ?_)))
 refine Gets.loop (fun v=>v.1.length≤N∧v.2.1.length=N∧∀ y∈v.1,0≤y∧y<(N:Int)) (fun v=>N-v.1.length) ⟨by simp,by simp,fun y hy=>(by cases hy)⟩ ?_
 rintro ⟨out,l0,⟨⟩⟩ ⟨i0,i1,i2⟩
 dsimp only at i0 i1 i2
 show Gets (ZKH (N:Int) L lv out l0) _
 unfold ZKH
 refine Gets.ite (fun hi=>?_) (fun _=>.ret (show out.length≤N∧∀ y∈out,0≤y∧y<(N:Int) from ⟨i0,i2⟩))
 have none_:([]:List Int).length≤N∧∀ y∈([]:List Int),0≤y∧y<(N:Int):=⟨by simp,fun y hy=>(by cases hy)⟩
 refine Gets.loop (fun v=>0≤v.1∧v.1≤(L.length:Int)∧v.2.1.length=N) (fun v=>((L.length:Int)-v.1).toNat) ⟨Int.le_refl _,by dsimp only;omega,by simp⟩ ?_
 rintro ⟨k,l1,⟨⟩⟩ ⟨k0,k1,k2⟩
 dsimp only at k0 k1 k2
 show Gets (ZKG (N:Int) L lv out l0 k l1) _
 unfold ZKG
 have ek:Wq (k+1)=k+1:=XD (by omega) (by omega)
 rw [ek]
 refine Gets.ite (fun hk=>?_) (fun _=>?_)
 ·refine .at k0 (by omega) fun _ _ _=>Gets.ite (fun _=>?_) (fun _=>.ret ⟨⟨by dsimp only;omega,by dsimp only;omega,k2⟩,by dsimp only;omega⟩)
  refine .at k0 hk fun x hx _=>?_
  have hb:=hL x hx
  refine .at hb.1.1 (by omega) fun _ _ _=>Gets.ite (fun _=>.ret ⟨⟨by dsimp only;omega,by dsimp only;omega,k2⟩,by dsimp only;omega⟩) (fun _=>?_)
  exact .at hb.2.1 (by omega) fun _ _ _=>.ret ⟨⟨by dsimp only;omega,by dsimp only;omega,by dsimp only;rw [List.length_set];exact k2⟩,by dsimp only;omega⟩
 ·refine Gets.loop (fun v=>0≤v.1∧v.1≤(N:Int)) (fun v=>((N:Int)-v.1).toNat) ⟨Int.le_refl _,by dsimp only;omega⟩ ?_
  rintro ⟨j,⟨⟩⟩ ⟨j0,j1⟩
  dsimp only at j0 j1
  show Gets (ZKF (N:Int) out l0 l1 j) _
  unfold ZKF
  have ej:Wq (j+1)=j+1:=XD (by omega) (by omega)
  rw [ej]
  have nxt:j<(N:Int)→(out++[j]).length≤N∧(List.set l0 (Int.toNat j) true).length=N∧∀ y∈out++[j],0≤y∧y<(N:Int):=fun hj=>⟨by simp only [List.length_append,List.length_cons,List.length_nil];omega,by rw [List.length_set];exact i1,Yi i2 ⟨j0,hj⟩⟩
  refine Gets.ite (fun hj=>?_) (fun hj=>?_)
  ·refine .at j0 (by omega) fun _ _ _=>Gets.ite (fun _=>.ret ⟨⟨by dsimp only;omega,by dsimp only;omega⟩,by dsimp only;omega⟩) (fun _=>?_)
   refine .at j0 (by omega) fun _ _ _=>Gets.ite (fun _=>.ret ⟨⟨by dsimp only;omega,by dsimp only;omega⟩,by dsimp only;omega⟩) (fun _=>?_)
   refine Gets.ite (fun _=>.ret none_) (fun _=>?_)
   exact .guard (by simp only [List.length_cons,List.length_nil];omega) (.ret ⟨nxt hj,by dsimp only;simp only [List.length_append,List.length_cons,List.length_nil];omega⟩)
  ·rw [if_pos (show j=(N:Int) by omega)]
   exact .ret none_
theorem ZMl {c:Qj} (hc:(Qj.Name c).length≤1048576):Gets (ZKW c) (fun _=>True):=by
 unfold ZKW
 refine Gets.loop (fun v=>0≤v.1∧v.1≤4) (fun v=>(4-v.1).toNat) ⟨Int.le_refl _,by dsimp only;omega⟩ ?_
 rintro ⟨i,⟨⟩⟩ ⟨i0,i1⟩
 dsimp only at i0 i1
 show Gets (ZKC c i) _
 unfold ZKC
 have ei:Wq (i+1)=i+1:=XD (by omega) (by omega)
 rw [ei]
 refine Gets.ite (fun hi=>?_) (fun _=>?_)
 ·have h4:i<4:=hi
  refine .at i0 hi fun x _ _=>?_
  rw [ZrJ,Bq]
  exact Gets.ite (fun _=>.ret ⟨⟨by dsimp only;omega,by dsimp only;omega⟩,by dsimp only;omega⟩) (fun _=>.ret trivial)
 ·rw [ZdJ _ (by omega),Bq]
  exact Gets.ite (fun _=>Gets.ite (fun _=>.ret trivial) (fun _=>.ret trivial)) (fun _=>.ret trivial)
theorem ZLs (s:Vz):Gets (ZKT s) (fun _=>True):=by
 unfold ZKT
 exact Gets.ite (fun _=>Gets.ite (fun _=>.ret trivial) (fun _=>.ret trivial)) (fun _=>.ret trivial)
theorem ZL8 {b:Zv} (h:ZqJ b) {l:List ZbY} (hl:l.length≤1048576):Gets (ZKS b l) (fun _=>True):=by
 unfold ZKS
 rw [ZIf h.ok.1.few,Bq]
 refine Gets.loop (fun v=>0≤v.1∧v.1≤(l.length:Int)) (fun v=>((l.length:Int)-v.1).toNat) ⟨Int.le_refl _,by dsimp only;omega⟩ ?_
 rintro ⟨i,⟨⟩⟩ ⟨i0,i1⟩
 dsimp only at i0 i1
 show Gets (ZKz l _ i) _
 unfold ZKz
 have ei:Wq (i+1)=i+1:=XD (by omega) (by omega)
 have ej:Wq (i-1)=i-1:=XD (by omega) (by omega)
 rw [ei,ej]
 refine Gets.ite (fun hi=>?_) (fun _=>.ret trivial)
 refine .at i0 hi fun x _ _=>?_
 rw [ZrJ,Bq]
 refine Gets.ite (fun _=>?_) (fun _=>.ret trivial)
 refine Gets.ite (fun h0=>?_) (fun _=>?_)
 ·refine .at (by omega) (by omega) fun y _ _=>Gets.ite (fun _=>.ret trivial) (fun _=>?_)
  refine (ZLn _).bind fun _ _=>Gets.ite (fun _=>?_) (fun _=>.ret trivial)
  exact (ZLs _).bind fun _ _=>Gets.ite (fun _=>.ret ⟨⟨by dsimp only;omega,by dsimp only;omega⟩,by dsimp only;omega⟩) (fun _=>.ret trivial)
 ·refine (ZLn _).bind fun _ _=>Gets.ite (fun _=>?_) (fun _=>.ret trivial)
  exact (ZLs _).bind fun _ _=>Gets.ite (fun _=>.ret ⟨⟨by dsimp only;omega,by dsimp only;omega⟩,by dsimp only;omega⟩) (fun _=>.ret trivial)
theorem ZMe {b:Zv} (h:ZqJ b) {br:List Int} (hbr:br.length≤1048576):Gets (ZHJ b br) (fun _=>True):=by
 have hLs:=ZHM h
 unfold ZHJ
 rw [Zrz b h.sm,Bq,if_pos (ZcF h.ok),ZHK h,Bq,ZHR br _ hbr (by omega),Bq]
 exact Gets.ite (fun _=>.ret trivial) (fun _=>.ret trivial)
theorem ZMN {b:Zv} (h:ZqJ b) {br:List Int} (hbr:br.length≤1048576):Gets (ZKu b br) (fun r=>r.1.length≤1000∧∀ y∈r.1,0≤y∧y<((2*(places (Zv.Design b)).length:Nat):Int)):=by
 have hLs:=ZHM h
 have hpl:=Zck h.ok.1.few
 unfold ZKu
 refine (ZMe h hbr).bind fun c _=>Gets.ite (fun _=>?_) (fun _=>.ret ⟨by simp,fun y hy=>(by cases hy)⟩)
 rw [ZHK h,Bq,ZIf h.ok.1.few,Bq,ZHW _ _ hLs hbr,Bq]
 refine (ZMC (by omega) (fun l hl=>by have:=ZH3 h hl;omega) hLs (ZHQ _ _)).bind fun r ⟨h1,h2⟩=>?_
 exact Gets.ite (fun _=>.ret ⟨by dsimp only;omega,h2⟩) (fun _=>.ret ⟨by simp,fun y hy=>(by cases hy)⟩)
theorem ZL9 {b:Zv} (hb:sm ZjX b) {c:Qj} (hc:(Qj.Name c).length≤1048576) {br:List Int} (hbr:br.length≤1048576) {src:List ZbY} (hs:src.length≤1048576):Gets (ZKo b c br src) (fun _=>True):=by
 unfold ZKo
 refine Gets.bind (P:=fun r=>r.2=0→ZqJ b∧r.1.length≤1000∧∀ y∈r.1,0≤y∧y<((2*(places (Zv.Design b)).length:Nat):Int)) ?_ fun r hr=>Gets.ite (fun h0=>?_) (fun _=>.ret trivial)
 ·unfold ZK9
  rw [Zrz b hb,Bq]
  refine Gets.ite (fun hB=>?_) (fun _=>.ret (fun q=>by cases q))
  have h:ZqJ b:=⟨(Zgv _).1 hB,hb⟩
  refine (ZMl hc).bind fun _ _=>Gets.ite (fun _=>?_) (fun _=>.ret (fun q=>by cases q))
  refine (ZMe h hbr).bind fun _ _=>Gets.ite (fun _=>?_) (fun _=>.ret (fun q=>by cases q))
  refine (ZL8 h hs).bind fun _ _=>Gets.ite (fun _=>?_) (fun _=>.ret (fun q=>by cases q))
  exact (ZMN h hbr).bind fun q ⟨h1,h2⟩=>.ret fun _=>⟨h,h1,h2⟩
 ·obtain ⟨h,h1,h2⟩:=hr h0
  have hLs:=ZHM h
  rw [ZHK h,Bq,ZHW _ _ hLs hbr,Bq]
  exact (ZMT h c (ZHQ _ _) hs h2 (by omega)).bind fun _ _=>Gets.ite (fun _=>.ret trivial) (fun _=>.ret trivial)
/-
  Plain laws: places after an edit, by the program.
-/
theorem ZMg {d:Zp} {x:Zz} (hn:0<(Zp.Instances d).length) (hx:(Zp.Instances d)[(Zp.Instances d).length-1]?=some x) {k:Nat} {p:Pl} (hp:(places d)[k]?=some p) (h0:0≤p.1) :
  p.1=((Zp.Instances d).length:Int)-1↔(places d).length≤k+(Zp.Vk d).length+(Zz.Zbh x).length:=by
 have hl:(places d).length=(cat ZeJ 0 (Zp.Instances d)).length+(Zp.Vk d).length:=by unfold places;rw [List.length_append,Zy0]
 have hs:cat ZeJ 0 (Zp.Instances d)=cat ZeJ 0 ((Zp.Instances d).take ((Zp.Instances d).length-1))++ZeJ ((Zp.Instances d).length-1) x:=by
  rw [←Zkj hx,show (Zp.Instances d).length-1+1=(Zp.Instances d).length by omega,List.take_length]
 have hsl:=congrArg List.length hs
 rw [List.length_append,ZMS] at hsl
 have hk:k<(cat ZeJ 0 (Zp.Instances d)).length:=by
  have:=(Zzd hp).1
  omega
 have h1:(cat ZeJ 0 (Zp.Instances d))[k]?=some p:=by
  unfold places at hp
  rwa [List.getElem?_append_left hk] at hp
 rw [hs] at h1
 by_cases hk2:k<(cat ZeJ 0 ((Zp.Instances d).take ((Zp.Instances d).length-1))).length
 ·rw [List.getElem?_append_left hk2] at h1
  obtain ⟨i,z,hi,hz⟩:=Zug.1 (List.mem_of_getElem? h1)
  have e:=ZzT hz
  have hil:=(List.getElem?_eq_some_iff.1 hi).1
  rw [List.length_take] at hil
  omega
 ·rw [List.getElem?_append_right (by omega)] at h1
  have e:=ZzT (List.mem_of_getElem? h1)
  omega
noncomputable def ZLV (b:Zv) (e:Zbk) (k:Nat) (p:Pl):Int :=
 if Zbk.Kind e=2∧p.1<0 then (k:Int)+2
 else if Zbk.Kind e=3∧p.1<0 then (k:Int)-2
 else if Zbk.Kind e=3∧p.1=((Zp.Instances (Zv.Design b)).length:Int)-1 then -1
 else (k:Int)
theorem ZMr {b:Zv} {e:Zbk} {k:Nat} {p:Pl} (k2:Zbk.Kind e=2) (q1:p.1<0):ZLV b e k p=(k:Int)+2:=by unfold ZLV;rw [if_pos ⟨k2,q1⟩]
theorem ZMx {b:Zv} {e:Zbk} {k:Nat} {p:Pl} (k3:Zbk.Kind e=3) (q1:p.1<0):ZLV b e k p=(k:Int)-2:=by unfold ZLV;rw [if_neg (fun q=>by have:=q.1;omega),if_pos ⟨k3,q1⟩]
theorem ZMy {b:Zv} {e:Zbk} {k:Nat} {p:Pl} (k3:Zbk.Kind e=3) (q1:¬p.1<0) (q2:p.1=((Zp.Instances (Zv.Design b)).length:Int)-1):ZLV b e k p=-1:=by unfold ZLV;rw [if_neg (fun q=>q1 q.2),if_neg (fun q=>q1 q.2),if_pos ⟨k3,q2⟩]
theorem ZMz {b:Zv} {e:Zbk} {k:Nat} {p:Pl} (k3:Zbk.Kind e=3) (q1:¬p.1<0) (q2:¬p.1=((Zp.Instances (Zv.Design b)).length:Int)-1):ZLV b e k p=(k:Int):=by unfold ZLV;rw [if_neg (fun q=>q1 q.2),if_neg (fun q=>q1 q.2),if_neg (fun q=>q2 q.2)]
theorem ZLi {b:Zv} {e:Zbk} {k:Nat} {p:Pl} (k3:¬Zbk.Kind e=3) (q1:¬(Zbk.Kind e=2∧p.1<0)):ZLV b e k p=(k:Int):=by unfold ZLV;rw [if_neg q1,if_neg (fun q=>k3 q.1),if_neg (fun q=>k3 q.1)]
noncomputable def after (b:Zv) (e:Zbk):List Int:=cat (fun k p=>[ZLV b e k p]) 0 (places (Zv.Design b))
theorem ZMi {α β:Type} {g:Nat→α→β}:∀ (l:List α) (m:Nat),(cat (fun j n=>[g j n]) m l).length=l.length
 | [],_=>rfl
 | x::r,m=>by simp only [cat,List.length_append,List.length_nil,ZMi r,List.length_cons];omega
theorem ZLm {b:Zv} {e:Zbk} (h:ZtQ b e):ZKs e b=some (after b e):=by
 have hD:=h.blk.ok.1
 have hf:=hD.few
 have hpl:=Zck hf
 have h14:=hf.insts
 unfold ZKs
 rw [show Zrb (Zp.Instances (Zv.Design b))=some ((Zp.Instances (Zv.Design b)).length:Int) from rfl,Zpj _ hf,Bq,Bq]
 have:=ZaG (l:=places (Zv.Design b)) (ρ:=List Int) (fun k p=>[ZLV b e k p]) [] (step:=fun v=>ZKq e ((Zp.Instances (Zv.Design b)).length:Int) (places (Zv.Design b)) v.1 v.2.1) (good:=after b e)
  (fun k p hp hk=>by
   have hl:=ZMi (g:=ZLV b e) ((places (Zv.Design b)).take k) 0
   rw [List.length_take] at hl
   have hpp:=Zzd hp
   have hg:∀ n:Int,(([]++cat (fun k p=>[ZLV b e k p]) 0 ((places (Zv.Design b)).take k)).length+[n].length)*8≤140737488355328:=fun n=>by
    rw [List.nil_append,List.length_singleton,hl];omega
   simp only [ZKq,show (k:Int)<((places (Zv.Design b)).length:Int) from by omega,if_true,VU,hp,Bq,ZB (hg _),Zkd (show k≤1048576 by omega),XD (show (-9223372036854775808:Int)≤(k:Int)+2 by omega) (by omega),XD (show (-9223372036854775808:Int)≤(k:Int)-2 by omega) (by omega),XD (show (-9223372036854775808:Int)≤((Zp.Instances (Zv.Design b)).length:Int)-1 by omega) (by omega),Zbl.instance]
   by_cases k2:Zbk.Kind e=2
   ·have k3:¬Zbk.Kind e=3:=by omega
    by_cases q1:p.1<0
    ·rw [ZMr k2 q1,if_pos k2,if_pos q1]
    ·rw [ZLi k3 (fun q=>q1 q.2),if_pos k2,if_neg q1,if_neg k3,if_neg k3]
   ·rw [if_neg k2]
    by_cases k3:Zbk.Kind e=3
    ·by_cases q1:p.1<0
     ·rw [ZMx k3 q1,if_pos k3,if_pos q1]
     ·by_cases q2:p.1=((Zp.Instances (Zv.Design b)).length:Int)-1
      ·rw [ZMy k3 q1 q2,if_pos k3,if_neg q1,if_pos k3,if_pos q2]
      ·rw [ZMz k3 q1 q2,if_pos k3,if_neg q1,if_pos k3,if_neg q2]
    ·rw [ZLi k3 (fun q=>k2 q.1),if_neg k3,if_neg k3])
  (by simp only [ZKq,Int.lt_irrefl,if_false];rfl)
 exact this
/-
  Plain laws: what the draws of timings after edits yield.
-/
theorem ZMu {s:Za} (hs:Src s):Gets (ZK5 s) (fun r=>(Zyx r.1∧ZMp (Zv.Library r.1))∧sm Zn2 r.2.1):=by
 unfold ZK5
 refine ((ZJz hs).ZMG (ZMR s)).bind fun r0 ⟨⟨hB,hc,hbr,hsr,h1⟩,hN⟩=>?_
 rw [Zrz _ hB.1.1,Bq]
 have rest:∀ {t:Za},Src t→Gets ((Zs2 t r0.fst).bind fun l08Draw0 =>
   (ZKo r0.fst r0.snd.fst (([]:List Int)) r0.snd.snd.snd.fst).bind fun PropagateTiming0 =>
   (Zc l08Draw0.snd (8:Int)).bind fun l01Next1 =>
   if l01Next1.fst=(0:Int) then
    if (0:Int)<(↑(List.length r0.snd.snd.fst):Int) then
     (ZKo r0.fst r0.snd.fst r0.snd.snd.fst r0.snd.snd.snd.fst).bind fun PropagateTiming1 =>
     some (r0.fst,l08Draw0.fst,r0.snd.fst,r0.snd.snd.snd.fst,PropagateTiming1.fst,l01Next1.snd)
    else
     some (r0.fst,l08Draw0.fst,r0.snd.fst,r0.snd.snd.snd.fst,PropagateTiming0.fst,l01Next1.snd)
   else
    some (r0.fst,l08Draw0.fst,r0.snd.fst,r0.snd.snd.snd.fst,PropagateTiming0.fst,l01Next1.snd))
   (fun r:Zv×Zbk×Qj×(List ZbY)×ZbZ×Za=>(Zyx r.1∧ZMp (Zv.Library r.1))∧sm Zn2 r.2.1):=fun ht=>by
  refine (Zxf ht hB.1).bind fun r1 ⟨he,h2⟩=>?_
  refine (ZL9 hB.1.1 (by omega) (by simp) (by omega)).bind fun _ _=>(Zf h2 _).bind fun r2 _=>?_
  exact Gets.ite (fun _=>Gets.ite (fun _=>(ZL9 hB.1.1 (by omega) (by omega) (by omega)).bind fun _ _=>.ret ⟨⟨hB.1,hN⟩,he⟩) (fun _=>.ret ⟨⟨hB.1,hN⟩,he⟩)) (fun _=>.ret ⟨⟨hB.1,hN⟩,he⟩)
 refine Gets.ite (fun _=>?_) (fun _=>rest h1)
 refine (Zf h1 _).bind fun r1 ⟨_,h2⟩=>?_
 refine Gets.ite (fun _=>?_) (fun _=>rest h2)
 refine (Zy9 h2 hB.1 (most:=1) (by omega) (by omega)).bind fun r2 ⟨⟨_,hl⟩,h3⟩=>?_
 refine (ZMc hB.1 hN hl).bind fun r3 ⟨hb3,hn3⟩=>?_
 refine (ZII h3 hb3.1).bind fun r4 ⟨hs4,h4⟩=>?_
 refine (Zxf h4 hb3).bind fun r5 ⟨he,h5⟩=>?_
 refine (ZL9 hb3.1 (by omega) (by simp) (by omega)).bind fun _ _=>(Zf h5 _).bind fun r6 _=>?_
 exact Gets.ite (fun _=>Gets.ite (fun _=>.ret ⟨⟨hb3,hn3⟩,he⟩) (fun _=>.ret ⟨⟨hb3,hn3⟩,he⟩)) (fun _=>.ret ⟨⟨hb3,hn3⟩,he⟩)
theorem ZMd {code:List Int} (hb:bnd (.sl (.int .u8)) code) (hl:code.length≤4096):Gets (ZKw code) (fun r=>(Zyx r.1∧ZMp (Zv.Library r.1))∧sm Zn2 r.2):=by
 unfold ZKw
 refine (Zjd (bytesD hb) hl).bind fun s hs=>?_
 exact (ZMu hs).bind fun r h=>.ret h
/-
  Plain laws: a place that is carried over keeps its name: the law FnPlacesAfter.
-/
theorem ZMt {α:Type} {p:Prop} {o:Option α} {r:α} (h:Zj p o=some r):p∧o=some r:=by
 unfold Zj at h
 split at h
 ·exact ⟨by assumption,h⟩
 ·cases h
theorem ZLj {α:Type} {l:List α} {i:Int} {x:α} (h:atI l i=some x):0≤i∧l[i.toNat]?=some x:=by
 unfold atI at h
 by_cases q:0≤i
 ·rw [if_pos q] at h;exact ⟨q,h⟩
 ·rw [if_neg q] at h;cases h
def ZMb (d d':Zp):Prop:=∀ (j:Nat) (q:Zah),(Zp.Vk d)[j]?=some q→∃ q',(Zp.Vk d')[j]?=some q'∧Zah.Name q'=Zah.Name q
def ZMh (a:ZaF) (d d':Zp) (i:Nat):Prop:=∀ x:Zz,(Zp.Instances d)[i]?=some x→∃ x',(Zp.Instances d')[i]?=some x'∧Zz.Name x'=Zz.Name x∧∀ c,atI (ZaF.Cells a) (Zz.Cell x)=some c→∃ c',atI (ZaF.Cells a) (Zz.Cell x')=some c'∧(QG.ZoY c').map ZhU.Name=(QG.ZoY c).map ZhU.Name
theorem ZMb.refl (d:Zp):ZMb d d:=fun j q h=>⟨q,h,rfl⟩
theorem ZMh.refl (a:ZaF) (d:Zp) (i:Nat):ZMh a d d i:=fun x h=>⟨x,h,rfl,fun c hc=>⟨c,hc,rfl⟩⟩
theorem ZLT (d:Zp) (a b n:Int):ZMb d (conn d a b n):=fun j q h=>by
 have hl:=(List.getElem?_eq_some_iff.1 h).1
 have hl2:j<(Zp.Vk (conn d a b n)).length:=by rw [ZuB];exact hl
 have hy:(Zp.Vk (conn d a b n))[j]?=some ((Zp.Vk (conn d a b n))[j]'hl2):=List.getElem?_eq_getElem _
 obtain ⟨x,hx,hn,_⟩:=Zyl hy
 rw [h] at hx
 injection hx with hx
 exact ⟨_,hy,by rw [hn,hx]⟩
theorem ZLS (l:ZaF) (d:Zp) (a b n:Int) (i:Nat):ZMh l d (conn d a b n) i:=fun x h=>by
 have hl:=(List.getElem?_eq_some_iff.1 h).1
 have hl2:i<(Zp.Instances (conn d a b n)).length:=by rw [ZpC];exact hl
 have hy:(Zp.Instances (conn d a b n))[i]?=some ((Zp.Instances (conn d a b n))[i]'hl2):=List.getElem?_eq_getElem _
 obtain ⟨z,hz,hn,hc,_⟩:=Zs5 hy
 rw [h] at hz
 injection hz with hz
 exact ⟨_,hy,by rw [hn,hz],fun c q=>⟨c,by rw [hc,←hz];exact q,rfl⟩⟩
theorem ZMJ {a:ZaF} {d d':Zp} {p p':Pl} (h1:p'.1=p.1) (h2:p'.2.1=p.2.1) (hP:ZMb d d') (hI:∀ i:Nat,p.1=(i:Int)→ZMh a d d' i) {s:List UInt8} (hs:ZKp d a p=some s):ZKp d' a p'=some s:=by
 unfold ZKp at hs ⊢
 have e1:Zbl.instance p'=Zbl.instance p:=h1
 have e2:Zbl.pin p'=Zbl.pin p:=h2
 rw [e1,e2]
 by_cases hn:Zbl.instance p<0
 ·rw [if_pos hn] at hs ⊢
  obtain ⟨q,hq,hs⟩:=Option.bind_eq_some_iff.1 hs
  obtain ⟨q0,hq2⟩:=ZLj hq
  obtain ⟨q',hq',hnm⟩:=hP _ _ hq2
  rw [Zkf q0 hq',Bq,hnm]
  exact hs
 ·rw [if_neg hn] at hs ⊢
  obtain ⟨x,hx,hs⟩:=Option.bind_eq_some_iff.1 hs
  obtain ⟨x0,hx2⟩:=ZLj hx
  obtain ⟨g1,hs⟩:=ZMt hs
  obtain ⟨c,hc,hs⟩:=Option.bind_eq_some_iff.1 hs
  obtain ⟨n,hnn,hs⟩:=Option.bind_eq_some_iff.1 hs
  obtain ⟨n0,hn2⟩:=ZLj hnn
  obtain ⟨g2,hs⟩:=ZMt hs
  obtain ⟨x',hx',hxn,hcs⟩:=hI (Zbl.instance p).toNat (by show p.1=_;have:Zbl.instance p=p.1:=rfl;omega) x hx2
  obtain ⟨c',hc',hpn⟩:=hcs c hc
  have hmap:((QG.ZoY c').map ZhU.Name)[(Zbl.pin p).toNat]?=some (ZhU.Name n):=by
   rw [hpn,List.getElem?_map,hn2]
   rfl
  rw [List.getElem?_map,Option.map_eq_some_iff] at hmap
  obtain ⟨n',hn',hnm⟩:=hmap
  rw [Zkf x0 hx',Bq,hxn,ZB g1,hc',Bq,Zkf n0 hn',Bq,hnm,ZB g2]
  exact hs
theorem ZMI {b:Zv} (h:ZqJ b) {k:Nat} {p:Pl} (hp:(places (Zv.Design b))[k]?=some p):∃ s,ZKx (Zv.Library b) (Zv.Design b) (k:Int)=some s∧ZKp (Zv.Design b) (Zv.Library b) p=some s:=by
 obtain ⟨b1,b2,b3⟩:=Zrd h.sm
 have hf:=h.ok.1.few
 have hpl:=Zck hf
 have hkl:=(List.getElem?_eq_some_iff.1 hp).1
 have hnm:∃ s,ZKp (Zv.Design b) (Zv.Library b) p=some s:=by
  unfold ZKp
  rcases Zqo hp with ⟨i,j,x,n,hx,hn,e,rfl⟩ | ⟨j,q,hq,e,rfl⟩
  ·obtain ⟨hc,⟨c,hc1,hc2⟩,_⟩:=h.ok.1.2.2.1 x (List.mem_of_getElem? hx)
   have hj:=(List.getElem?_eq_some_iff.1 hn).1
   have hpin:(QG.ZoY c)[j]?=some ((QG.ZoY c)[j]'(by omega)):=List.getElem?_eq_getElem _
   have sx:=(ZuV (ZqC (Zrk b2).1 hx)).1
   have sx2:((Zz.Name x).length:Int)≤1048576:=sx
   have sp:=ZqC (Zy2 (ZqC (Zw1 b1) hc1)).pins hpin
   have sp2:((ZhU.Name ((QG.ZoY c)[j]'(by omega))).length:Int)≤1048576:=sp.1
   rw [show Zbl.instance (ZrW i x j n)=(i:Int) from rfl,show Zbl.pin (ZrW i x j n)=(j:Int) from rfl,if_neg (by omega),VU,hx,Bq,ZB (by simp only [List.length_cons,List.length_nil];omega),Zkf hc.1 hc1,Bq,VU,hpin,Bq,ZB (by simp only [List.length_append,List.length_cons,List.length_nil];omega)]
   exact ⟨_,rfl⟩
  ·rw [show Zbl.instance ((-1:Int),(j:Int),Zah.Net q,decide (Zah.Dir q=1),())=(-1:Int) from rfl,show Zbl.pin ((-1:Int),(j:Int),Zah.Net q,decide (Zah.Dir q=1),())=(j:Int) from rfl,if_pos (by omega),VU,hq,Bq]
   exact ⟨_,rfl⟩
 obtain ⟨s,hs⟩:=hnm
 refine ⟨s,?_,hs⟩
 unfold ZKx ZK8
 rw [ZwX _ _ b1 b2,Bq,if_pos (ZcF h.ok.1),Zpj _ hf,Bq,show ZrV (places (Zv.Design b))=some ((places (Zv.Design b)).length:Int) from rfl,Bq,XD (by omega) (by omega),ZrR,Bq,if_pos (ZcF ⟨by omega,by omega⟩),VU,hp,Bq,Bq,if_pos rfl]
 show (ZKp (Zv.Design b) (Zv.Library b) p).bind _=_
 rw [hs]
 rfl
def ZMq (d':Zp) (k:Nat) (p:Pl):Prop:=∃ p',(places d')[k]?=some p'∧p'.1=p.1∧p'.2.1=p.2.1
theorem ZMn {l:List Pl} {k0:Nat} {p0:Pl} (h0:l[k0]?=some p0) (n:Int) {k:Nat} {p:Pl} (hp:l[k]?=some p):∃ p',(l.set k0 (p0.1,p0.2.1,n,p0.2.2.2.1,()))[k]?=some p'∧p'.1=p.1∧p'.2.1=p.2.1:=by
 by_cases e:k0=k
 ·subst e
  rw [h0] at hp
  injection hp with hp
  subst hp
  exact ⟨_,List.getElem?_set_self (List.getElem?_eq_some_iff.1 h0).1,rfl,rfl⟩
 ·exact ⟨p,by rw [List.getElem?_set_ne e];exact hp,rfl,rfl⟩
theorem ZMF {b r:Zv} {e:Zbk} (h:ZtQ b e) (he:sm Zn2 e) (hN:ZMp (Zv.Library b)) (hr:Zpy e b=some r) {k:Nat} {p:Pl} (hp:(places (Zv.Design b))[k]?=some p) (h0:0≤ZLV b e k p) :
  ZMq (Zv.Design r) (ZLV b e k p).toNat p∧ZMb (Zv.Design b) (Zv.Design r)∧∀ i:Nat,p.1=(i:Int)→ZMh (Zv.Library b) (Zv.Design b) (Zv.Design r) i:=by
 have hB:=h.blk
 have hport:=Zzd hp
 have htwo:=ZsZ (Zv.Design b)
 by_cases k1:Zbk.Kind e=1
 ·obtain ⟨p0,x,c,c2,hp0,h00,_,hx,hc,hc2,ha⟩:=h.poss.1 k1
  have hx2:(Zp.Instances (Zv.Design b))[p0.1.toNat]?=some x:=(ZLj hx).2
  rw [app1 hB k1 hp0 h00 hx2] at hr
  injection hr with hr
  subst hr
  have ed:Zv.Design (swapped b p0.1 (Zbk.Cell e))=((Zp.Instances (Zv.Design b)).set p0.1.toNat (Zz.Name x,Zbk.Cell e,Zz.Zbh x,()),Zp.Zbh (Zv.Design b),Zp.Vk (Zv.Design b),()):=by
   unfold swapped
   rw [hx2]
  rw [ed,ZLi (by omega) (fun q=>by have:=q.1;omega),Int.toNat_natCast]
  refine ⟨⟨p,by rw [Zuy hx2];exact hp,rfl,rfl⟩,ZMb.refl _,fun i _ z hz=>?_⟩
  by_cases q:p0.1.toNat=i
  ·subst q
   rw [hx2] at hz
   injection hz with hz
   subst hz
   refine ⟨_,List.getElem?_set_self (List.getElem?_eq_some_iff.1 hx2).1,rfl,fun c' hc'=>?_⟩
   rw [hc] at hc'
   injection hc' with hc'
   subst hc'
   refine ⟨c2,hc2,?_⟩
   obtain ⟨a1,a2,_⟩:=(Zyh (ZqC (Zw1 (Zrd hB.sm).1) (ZLj hc).2)).1 ha
   have n1:=hN c (List.mem_of_getElem? (ZLj hc).2)
   have n2:=hN c2 (List.mem_of_getElem? (ZLj hc2).2)
   unfold ZME at n1 n2
   rw [n1,n2,a1,a2]
  ·exact ⟨z,by rw [←hz];exact List.getElem?_set_ne q,rfl,fun c' hc'=>⟨c',hc',rfl⟩⟩
 by_cases k2:Zbk.Kind e=2
 ·obtain ⟨p0,c,hp0,hd,_⟩:=h.poss.2.1 k2
  rw [app2 h k2 (ZvB he).1 hp0 hd] at hr
  injection hr with hr
  subst hr
  show ZMq (ZtC b e p0) _ p∧ZMb _ (ZtC b e p0)∧∀ i:Nat,p.1=(i:Int)→ZMh _ _ (ZtC b e p0) i
  refine ⟨?_,fun j q hq=>?_,fun i hi z hz=>?_⟩
  ·have hadd:(places (addInst (Zv.Design b) (Zum b e p0) (Zbk.Name e)))[(ZLV b e k p).toNat]?=some p:=by
    by_cases q:p.1<0
    ·rw [ZMr k2 q,show ((k:Int)+2).toNat=k+(Zz.Zbh (Zum b e p0)).length by show _=k+2;omega,ZvO (by have:=hport.1.1 q;omega)]
     exact hp
    ·rw [ZLi (by omega) (fun z=>q z.2),Int.toNat_natCast,ZwH (Nat.lt_of_not_le fun z=>q (hport.1.2 (by omega)))]
     exact hp
   obtain ⟨p',e1,e2,e3⟩:=ZMn (Zt2 (q:=p0) hB hp0.2) ((Zp.Zbh (Zv.Design b)).length:Int) hadd
   exact ⟨p',by rw [Zt6 hp0.2,ZpN (Zt2 (q:=p0) hB hp0.2)];exact e1,e2,e3⟩
  ·exact ZLT _ _ _ _ j q hq
  ·obtain ⟨x',hx',w⟩:=ZLS (Zv.Library b) (Zv.Design b) p0.1 p0.2.1 ((Zp.Zbh (Zv.Design b)).length:Int) i z hz
   refine ⟨x',?_,w⟩
   show (Zp.Instances (conn (Zv.Design b) p0.1 p0.2.1 _)++[Zum b e p0])[i]?=some x'
   rw [List.getElem?_append_left (List.getElem?_eq_some_iff.1 hx').1]
   exact hx'
 by_cases k3:Zbk.Kind e=3
 ·have hL:=h.poss.2.2.1 k3
  obtain ⟨k',p0,m,hs,hp0,hpi,hm,ha3⟩:=app3 hB hL k3
  rw [ha3] at hr
  injection hr with hr
  subst hr
  obtain ⟨hn,x,hx,hl2⟩:=hL.two
  have hn2:0<(Zp.Instances (conn (Zv.Design b) p0.1 p0.2.1 m)).length:=by rw [ZpC];exact hn
  have hx4:(Zp.Instances (conn (Zv.Design b) p0.1 p0.2.1 m))[(Zp.Instances (conn (Zv.Design b) p0.1 p0.2.1 m)).length-1]?=some ((Zp.Instances (conn (Zv.Design b) p0.1 p0.2.1 m))[(Zp.Instances (conn (Zv.Design b) p0.1 p0.2.1 m)).length-1]'(by omega)):=List.getElem?_eq_getElem _
  generalize (Zp.Instances (conn (Zv.Design b) p0.1 p0.2.1 m))[(Zp.Instances (conn (Zv.Design b) p0.1 p0.2.1 m)).length-1]'(by omega)=x' at hx4
  obtain ⟨y,hy,_,_,hyl,_⟩:=Zs5 hx4
  rw [ZpC,hx] at hy
  injection hy with hy
  have hx2:(Zz.Zbh x').length=2:=by rw [hyl,←hy,hl2]
  have h5:=Zuf hn2 hx4 (by rw [hyl,←hy,hl2])
  have h6:=Zt3 hp0 m
  show ZMq (Zpx (conn (Zv.Design b) p0.1 p0.2.1 m)) _ p∧ZMb _ (Zpx (conn (Zv.Design b) p0.1 p0.2.1 m))∧∀ i:Nat,p.1=(i:Int)→ZMh _ _ (Zpx (conn (Zv.Design b) p0.1 p0.2.1 m)) i
  have hlast:¬p.1<0→(p.1=((Zp.Instances (Zv.Design b)).length:Int)-1↔(places (Zv.Design b)).length≤k+(Zp.Vk (Zv.Design b)).length+(Zz.Zbh x).length):=fun q=>ZMg hn hx hp (by omega)
  have hnl:¬p.1<0→¬p.1=((Zp.Instances (Zv.Design b)).length:Int)-1:=fun q z=>by
   rw [ZMy k3 q z] at h0
   omega
  refine ⟨?_,fun j q hq=>?_,fun i hi z hz=>?_⟩
  ·obtain ⟨p',e1,e2,e3⟩:=ZMn hp0 m hp
   rw [←ZpN hp0 m,ZuE (s:=[]) hn2 hx4] at e1
   by_cases q:p.1<0
   ·have hk:=hport.1.1 q
    refine ⟨p',?_,e2,e3⟩
    rw [ZMx k3 q,show ((k:Int)-2).toNat=k-2 by omega]
    have:=ZvO (d:=Zpx (conn (Zv.Design b) p0.1 p0.2.1 m)) (x:=x') (s:=[]) (k:=k-2) (by omega)
    rw [hx2,show k-2+2=k by omega] at this
    rw [←this]
    exact e1
   ·have hl:=hlast q
    have hno:=hnl q
    refine ⟨p',?_,e2,e3⟩
    rw [ZMz k3 q hno,Int.toNat_natCast]
    rw [←ZwH (d:=Zpx (conn (Zv.Design b) p0.1 p0.2.1 m)) (x:=x') (s:=[]) (k:=k) (by
     have:¬(places (Zv.Design b)).length≤k+(Zp.Vk (Zv.Design b)).length+(Zz.Zbh x).length:=fun z=>hno (hl.2 z)
     omega)]
    exact e1
  ·exact ZLT _ _ _ _ j q hq
  ·obtain ⟨z',hz',w⟩:=ZLS (Zv.Library b) (Zv.Design b) p0.1 p0.2.1 m i z hz
   refine ⟨z',?_,w⟩
   have hlt:=(List.getElem?_eq_some_iff.1 hz').1
   have hno:=hnl (by omega)
   show ((Zp.Instances (conn (Zv.Design b) p0.1 p0.2.1 m)).take _)[i]?=some z'
   rw [ZpC] at hlt ⊢
   rw [List.getElem?_take,if_pos (by omega)]
   exact hz'
 have k23:¬(Zbk.Kind e=2∧p.1<0):=fun q=>k2 q.1
 by_cases k4:Zbk.Kind e=4
 ·obtain ⟨p0,hp0,hd,_⟩:=h.poss.2.2.2.1 k4
  rw [app4 hB k4 hp0 hd (h.range.2.1 k4).2.1] at hr
  injection hr with hr
  subst hr
  rw [ZLi k3 k23,Int.toNat_natCast]
  show ZMq (conn (Zv.Design b) p0.1 p0.2.1 (Zbk.Net e)) k p∧ZMb _ (conn (Zv.Design b) p0.1 p0.2.1 (Zbk.Net e))∧∀ i:Nat,p.1=(i:Int)→ZMh _ _ (conn (Zv.Design b) p0.1 p0.2.1 (Zbk.Net e)) i
  refine ⟨?_,ZLT _ _ _ _,fun i _=>ZLS _ _ _ _ _ i⟩
  unfold ZMq
  rw [ZpN hp0.2]
  exact ZMn hp0.2 _ hp
 ·have k5:Zbk.Kind e=5:=by have:=h.blank;unfold Blank at this;omega
  rw [ZAS hB k5 (h.range.2.2 k5) (ZvB he).2] at hr
  injection hr with hr
  subst hr
  rw [ZLi k3 k23,Int.toNat_natCast]
  exact ⟨⟨p,hp,rfl,rfl⟩,ZMb.refl _,fun i _=>ZMh.refl _ _ i⟩
theorem ZMP {b:Zv} {e:Zbk} (h:ZtQ b e) {k:Nat} {p q:Pl} (hq:(places (Zv.Design b))[k]?=some q) (hp:(places (Zv.Design b))[k+1]?=some p) (h0:0≤ZLV b e (k+1) p):ZLV b e k q<ZLV b e (k+1) p:=by
 have h1:=Zzd hq
 have h2:=Zzd hp
 by_cases k2:Zbk.Kind e=2
 ·by_cases c1:q.1<0
  ·rw [ZMr k2 c1,ZMr k2 (h2.1.2 (by have:=h1.1.1 c1;omega))]
   omega
  ·rw [ZLi (by omega) (fun z=>c1 z.2)]
   by_cases c2:p.1<0
   ·rw [ZMr k2 c2];omega
   ·rw [ZLi (by omega) (fun z=>c2 z.2)];omega
 by_cases k3:Zbk.Kind e=3
 ·obtain ⟨hn,x,hx,hl2⟩:=h.last k3
  by_cases c1:q.1<0
  ·rw [ZMx k3 c1,ZMx k3 (h2.1.2 (by have:=h1.1.1 c1;omega))]
   omega
  ·have hl:=ZMg hn hx hq (by omega)
   by_cases c3:q.1=((Zp.Instances (Zv.Design b)).length:Int)-1
   ·rw [ZMy k3 c1 c3]
    omega
   ·rw [ZMz k3 c1 c3]
    have hq2:¬(places (Zv.Design b)).length≤k+(Zp.Vk (Zv.Design b)).length+(Zz.Zbh x).length:=fun z=>c3 (hl.2 z)
    have c2:¬p.1<0:=fun z=>by have:=h2.1.1 z;omega
    by_cases c4:p.1=((Zp.Instances (Zv.Design b)).length:Int)-1
    ·rw [ZMy k3 c2 c4] at h0
     omega
    ·rw [ZMz k3 c2 c4]
     omega
 ·rw [ZLi k3 (fun z=>k2 z.1),ZLi k3 (fun z=>k2 z.1)]
  omega
theorem ZMs {b:Zv} {e:Zbk} {k:Nat} {p:Pl} (hp:(places (Zv.Design b))[k]?=some p):(after b e)[k]?=some (ZLV b e k p):=by
 unfold after
 rw [ZIL,hp,Nat.zero_add]
 rfl
theorem ZLd (code:List Int) (hb:bnd (.sl (.int .u8)) code):ZKI code=some true:=by
 unfold ZKI ZbE
 rw [Bq]
 by_cases hbig:decide ((4096:Int)<(code.length:Int))=true
 ·rw [if_pos hbig]
 rw [if_neg hbig]
 have hlen:code.length≤4096:=by
  simp only [decide_eq_true_eq] at hbig
  omega
 obtain ⟨⟨b,e⟩,hd,⟨hbE,hN⟩,he⟩:=ZMd hb hlen
 have hbE:Zyx b:=hbE
 have hN:ZMp (Zv.Library b):=hN
 have he:sm Zn2 e:=he
 rw [hd,Bq]
 obtain ⟨c,h1,h2,h3⟩:=Zxh b e hbE.1 he
 by_cases hc:c=0
 ·subst hc
  have hC:=h3 rfl
  have hB:=hC.blk
  have hf:=hB.ok.1.few
  have hpl:=Zck hf
  obtain ⟨b1,b2,b3⟩:=Zrd hB.sm
  obtain ⟨r,a1,a2,a3,a4⟩:=ZzN hC he
  have hal:(after b e).length=(places (Zv.Design b)).length:=ZMi _ _
  have eP:ZKr (b,e).fst (b,e).snd=some (after b e,0):=by
   show ZKr b e=_
   unfold ZKr
   rw [h1,Bq,if_pos rfl,ZLm hC]
   rfl
  have eA:ZsB (b,e).fst (b,e).snd=some (r,0):=by
   show ZsB b e=_
   unfold ZsB
   rw [h2,Bq,if_pos rfl,a2]
   rfl
  have eC:ZKD (b,e).fst.fst (b,e).fst.snd.fst=some ((places (Zv.Design b)).length:Int):=by
   show ZKD (Zv.Library b) (Zv.Design b)=_
   unfold ZKD
   rw [Zw2 _ _ b1 b2,Bq,if_pos (ZcF hB.ok.1),JF _ hf]
   rfl
  rw [eP,Bq,eA,Bq,if_pos rfl,if_pos rfl,eC,Bq,if_pos (by rw [hal])]
  refine ZgW (l:=after b e) (fun k=>((k:Int),())) (fun k x hx hk=>?_) ?_
  ·have hkl:=(List.getElem?_eq_some_iff.1 hx).1
   have hp:(places (Zv.Design b))[k]?=some ((places (Zv.Design b))[k]'(by omega)):=List.getElem?_eq_getElem _
   generalize (places (Zv.Design b))[k]'(by omega)=p at hp
   have hg:=ZMs (e:=e) hp
   rw [hx] at hg
   injection hg with hg
   subst hg
   simp only [ZKt,show (k:Int)<((after b e).length:Int) by omega,if_true,VU,hx,Bq,Zkd (show k≤1048576 by omega)]
   by_cases hx0:0≤ZLV b e k p
   ·obtain ⟨s,s1,s2⟩:=ZMI hB hp
    obtain ⟨⟨p',q1,q2,q3⟩,hKP,hKI⟩:=ZMF hC he hN a1 hp hx0
    obtain ⟨s',s3,s4⟩:=ZMI a3 q1
    have s5:=ZMJ q2 q3 hKP hKI s2
    rw [←a4,s4] at s5
    injection s5 with s5
    subst s5
    rw [show (((ZLV b e k p).toNat:Nat):Int)=ZLV b e k p by omega] at s3
    rw [if_pos hx0,show ZKx (b,e).fst.fst (b,e).fst.snd.fst (k:Int)=some s' from s1,Bq,show ZKx (r,(0:Int)).fst.fst (r,(0:Int)).fst.snd.fst (ZLV b e k p)=some s' from s3,Bq,if_pos rfl]
    by_cases hk0:(0:Int)<(k:Int)
    ·obtain ⟨m,rfl⟩:∃ m,k=m+1:=⟨k-1,by omega⟩
     have hq:(places (Zv.Design b))[m]?=some ((places (Zv.Design b))[m]'(by omega)):=List.getElem?_eq_getElem _
     generalize (places (Zv.Design b))[m]'(by omega)=q at hq
     have hm:=ZMP hC hq hp hx0
     rw [if_pos hk0,if_pos hx0,ZAd (by omega) (by omega),show m+1-1=m by omega,VU,ZMs (e:=e) hq,Bq,if_neg (by omega)]
    ·rw [if_neg hk0]
   ·rw [if_neg hx0]
    by_cases hk0:(0:Int)<(k:Int)
    ·rw [if_pos hk0,if_neg hx0]
    ·rw [if_neg hk0]
  ·have hne:0<(after b e).length:=by
    obtain ⟨q,y,hy,_⟩:=ZIZ hB.ok.1 b2 (v:=0) (by have:=hC.net;omega)
    have:=(List.getElem?_eq_some_iff.1 hy).1
    omega
   simp only [ZKt,Int.lt_irrefl,if_false]
   rw [decide_eq_true (by omega)]
 ·have eP:ZKr (b,e).fst (b,e).snd=some ([],c):=by
   show ZKr b e=_
   unfold ZKr
   rw [h1,Bq,if_neg hc]
  have eA:ZsB (b,e).fst (b,e).snd=some (ZyF,c):=by
   show ZsB b e=_
   unfold ZsB
   rw [h2,Bq,if_neg hc]
  rw [eP,Bq,eA,Bq,if_pos rfl,if_neg hc]
  rfl
end Go.Proofs.YtnnbgbgapogckaaGreatDoor
