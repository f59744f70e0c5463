/-
  Plain laws: links of arcs.
-/
import Derived.Test.YtclfgjepbamnlaaGreatDoorLC
import Derived.Test.YtclfgjepbamnlaaGreatDoorLB
namespace Go.Proofs.YtclfgjepbamnlaaGreatDoor
set_option linter.unusedVariables false
set_option linter.unusedSimpArgs false
open Go Go.Sx
def Qt (f t a b kind ix:Int):Zq:=(2*f+a,2*t+b,kind,ix,())
def trs (a:Zw):List (Int×Int×Unit) :=
 if Zw.Kind a=2 then [(0,0,()),(0,1,())] else if Zw.Kind a=3 then [(1,0,()),(1,1,())] else
  if Zw.Kind a=1 then (if Zw.Vi a=1 then [(0,0,()),(1,1,())] else if Zw.Vi a=2 then [(0,1,()),(1,0,())] else [(0,0,()),(0,1,()),(1,0,()),(1,1,())]) else []
theorem ZnY (a:Zw):VJ a=some (trs a):=by
 unfold VJ trs
 repeat' split
 all_goals rfl
def Znl (a:Zw) (f t ix:Int):List Zq:=(trs a).map (fun p=>Qt f t p.1 p.2.1 1 ix)
theorem ZqO (l:List Zq) (f t a b kind ix:Int) (hl:l.length≤1048576) (hf:0≤f∧f≤1048576) (ht:0≤t∧t≤1048576) (ha:0≤a∧a≤1) (hb:0≤b∧b≤1) :
  VA l f t a b kind ix=some (l++[Qt f t a b kind ix]):=by
 unfold VA Qt
 rw [Zh (by simp;omega),YZ (n:=2*f) (by omega) (by omega),YZ (n:=2*t) (by omega) (by omega),YZ (n:=2*f+a) (by omega) (by omega),YZ (n:=2*t+b) (by omega) (by omega)]
def ZvS (arc:Zw) (a b:Int):Bool :=
 if Zw.Kind arc=1 then (if Zw.Vi arc=3 then true else (decide (Zw.Vi arc=1) == decide (a=b))) else if Zw.Kind arc=2 then decide (a=0) else if Zw.Kind arc=3 then decide (a=1) else false
def Zkh (arc:Zw) (f t ix a b:Int):List Zq:=if ZvS arc a b=true then [Qt f t a b 1 ix] else []
theorem Zq6 (arc:Zw) (f t ix a b:Int) (l:List Zq) (hl:l.length≤1048576) (hf:0≤f∧f≤1048576) (ht:0≤t∧t≤1048576) (ha:0≤a∧a≤1) (hb:0≤b∧b≤1) :
  V5 arc f t ix a l b=some (.inl (l++Zkh arc f t ix a b,b+1,())):=by
 unfold V5 Zkh ZvS
 rw [if_pos (by omega),ZqO l f t a b 1 ix hl hf ht ha hb,YZ (n:=b+1) (by omega) (by omega)]
 simp only [Bq]
 by_cases k1:Zw.Kind arc=1
 ·simp only [k1,if_true]
  by_cases s3:Zw.Vi arc=3
  ·simp only [s3,if_true]
  ·simp only [s3,if_false]
   split
   ·rfl
   ·rw [List.append_nil]
 by_cases k2:Zw.Kind arc=2
 ·simp only [k2,if_true,Int.reduceEq,if_false,decide_eq_true_eq]
  split
  ·rfl
  ·rw [List.append_nil]
 by_cases k3:Zw.Kind arc=3
 ·simp only [k3,if_true,Int.reduceEq,if_false,decide_eq_true_eq]
  split
  ·rfl
  ·rw [List.append_nil]
 ·simp only [k1,k2,k3,if_false,Bool.false_eq_true,List.append_nil]
theorem Zl0 (arc:Zw) (f t ix a b:Int):(Zkh arc f t ix a b).length≤1:=by
 unfold Zkh;split<;>simp
theorem Zpo (arc:Zw) (f t ix a:Int) (l:List Zq) (hl:l.length≤1048000) (hf:0≤f∧f≤1048576) (ht:0≤t∧t≤1048576) (ha:0≤a∧a≤1) :
  Zm (fun v=>V5 arc f t ix a v.1 v.2.1) (l,(0:Int),())=some (.inl (l++Zkh arc f t ix a 0++Zkh arc f t ix a 1,a+1,())):=by
 have h1:=Zl0 arc f t ix a 0
 have h2:=Zl0 arc f t ix a 1
 rw [Xh (v':=(l++Zkh arc f t ix a 0,(0:Int)+1,())) (Zq6 arc f t ix a 0 l (by omega) hf ht ha (by omega)),
  Xh (v':=(l++Zkh arc f t ix a 0++Zkh arc f t ix a 1,(0:Int)+1+1,())) (Zq6 arc f t ix a (0+1) _ (by rw [List.length_append];omega) hf ht ha (by omega)),Xe]
 simp only [V5]
 rw [if_neg (by omega),YZ (n:=a+1) (by omega) (by omega)]
theorem Zuq (arc:Zw) (f t ix:Int) (hs:Zw.Kind arc=1→1≤Zw.Vi arc∧Zw.Vi arc≤3):Zkh arc f t ix 0 0++Zkh arc f t ix 0 1++(Zkh arc f t ix 1 0++Zkh arc f t ix 1 1)=Znl arc f t ix:=by
 unfold Zkh ZvS Znl trs
 by_cases k1:Zw.Kind arc=1
 ·have h:=hs k1
  by_cases s1:Zw.Vi arc=1
  ·simp [k1,s1]
  by_cases s2:Zw.Vi arc=2
  ·simp [k1,s2]
  ·have s3:Zw.Vi arc=3:=by omega
   simp [k1,s3]
 by_cases k2:Zw.Kind arc=2
 ·simp [k2]
 by_cases k3:Zw.Kind arc=3
 ·simp [k3]
 ·simp [k1,k2,k3]
theorem ZnR (l:List Zq) (arc:Zw) (f t ix:Int) (hl:l.length≤1047000) (hf:0≤f∧f≤1048576) (ht:0≤t∧t≤1048576) (hs:Zw.Kind arc=1→1≤Zw.Vi arc∧Zw.Vi arc≤3) :
  Zgx l arc f t ix=some (l++Znl arc f t ix):=by
 have h1:=Zl0 arc f t ix 0 0
 have h2:=Zl0 arc f t ix 0 1
 unfold Zgx
 have s0:QS arc f t ix l 0=some (.inl (l++Zkh arc f t ix 0 0++Zkh arc f t ix 0 1,0+1,())):=by
  unfold QS
  rw [if_pos (by omega),Zpo arc f t ix 0 l (by omega) hf ht (by omega)]
 have s1:QS arc f t ix (l++Zkh arc f t ix 0 0++Zkh arc f t ix 0 1) 1=some (.inl (l++Zkh arc f t ix 0 0++Zkh arc f t ix 0 1++Zkh arc f t ix 1 0++Zkh arc f t ix 1 1,1+1,())):=by
  unfold QS
  rw [if_pos (by omega),Zpo arc f t ix 1 _ (by simp only [List.length_append];omega) hf ht (by omega)]
 rw [Xh (v':=(l++Zkh arc f t ix 0 0++Zkh arc f t ix 0 1,(1:Int),())) s0,Xh (v':=(l++Zkh arc f t ix 0 0++Zkh arc f t ix 0 1++Zkh arc f t ix 1 0++Zkh arc f t ix 1 1,(2:Int),())) s1,Xe (r:=l++Znl arc f t ix)]
 simp only [QS]
 rw [if_neg (by omega),←Zuq arc f t ix hs]
 simp only [List.append_assoc]
def Zr3 (c:Zi) (f:Int):List Zq:=cat (fun i a=>Znl a (f+Zw.From a) (f+Zw.To a) (i:Int)) 0 (Zi.VI c)
theorem Zpe (a:Zw):(trs a).length≤4:=by
 unfold trs;repeat' split
 all_goals simp
theorem ZfH {b:Zd} (h:Qm b) {x:Zg} (hx:x∈Zc.Instances (Zd.Design b)) (f:Int) (hf:0≤f∧f≤1000000) :
  ∃ c,(Zt.Cells (Zd.Library b))[(Zg.Cell x).toNat]?=some c∧Zio c∧VK b x f=some (Zr3 c f):=by
 obtain ⟨hc,⟨c,hc1,hc2⟩,_⟩:=h.ok.1.2.2.1 x hx
 have hC:=h.ok.1.1.2.1 c (List.mem_of_getElem? hc1)
 have hA:=hC.2.2.1.1
 refine ⟨c,hc1,hC,?_⟩
 unfold VK
 rw [Qj hc.1 hc1,Bq]
 refine Xp (l:=Zi.VI c) (fun i a=>Znl a (f+Zw.From a) (f+Zw.To a) (i:Int)) [] (fun k a ha hk=>?_) ?_
 ·have hao:=(hC.2.2.1.2 k a ha).1
  have hpl:=hC.2.1.2.1
  have hl:=VQ (f:=fun i a=>Znl a (f+Zw.From a) (f+Zw.To a) (i:Int)) (c:=4) (l:=(Zi.VI c).take k) (m:=0) (fun i a _=>by simp only [Znl,List.length_map];exact Zpe a)
  rw [List.length_take] at hl
  simp only [List.nil_append,Vb,show (k:Int)<((Zi.VI c).length:Int) from by omega,if_true,Zn,ha,ZnY,Bq]
  generalize cat (fun i a=>Znl a (f+Zw.From a) (f+Zw.To a) (i:Int)) 0 ((Zi.VI c).take k)=acc at hl
  have ht4:=Zpe a
  have htr:∀ p∈trs a,(0≤p.1∧p.1≤1)∧(0≤p.2.1∧p.2.1≤1):=by
   intro p hp
   unfold trs at hp
   repeat' split at hp
   all_goals (simp only [List.mem_cons,List.not_mem_nil,or_false] at hp)
   all_goals first | (rcases hp with rfl | rfl | rfl | rfl<;>simp) | (rcases hp with rfl | rfl<;>simp) | exact hp.elim
  have h1:=hao.1
  have h2:=hao.2.1
  refine (Xp (l:=trs a) (ρ:=(List Zq×Int×Unit) ⊕ List Zq) (fun _ p=>[Qt (f+Zw.From a) (f+Zw.To a) p.1 p.2.1 1 (k:Int)]) acc (good:=.inl (acc++Znl a (f+Zw.From a) (f+Zw.To a) (k:Int),((k+1:Nat):Int),())) (fun j p hp hj=>?_) ?_)
  ·have hp2:=htr p (List.mem_of_getElem? hp)
   have hl2:=VQ (f:=fun (_:Nat) (p:Int×Int×Unit)=>[Qt (f+Zw.From a) (f+Zw.To a) p.1 p.2.1 1 (k:Int)]) (c:=1) (l:=(trs a).take j) (m:=0) (fun _ _ _=>by simp)
   rw [List.length_take] at hl2
   simp only [Va,show (j:Int)<((trs a).length:Int) from by omega,if_true,Zn,hp,Bq]
   rw [Zh (by rw [List.length_append,List.length_singleton];omega),Xo (by omega),YZ (n:=f+Zw.From a) (by omega) (by omega),YZ (n:=f+Zw.To a) (by omega) (by omega),YZ (n:=2*(f+Zw.From a)) (by omega) (by omega),YZ (n:=2*(f+Zw.To a)) (by omega) (by omega),YZ (n:=2*(f+Zw.From a)+p.1) (by omega) (by omega),YZ (n:=2*(f+Zw.To a)+p.2.1) (by omega) (by omega)]
   rfl
  ·have e:cat (fun (_:Nat) (p:Int×Int×Unit)=>[Qt (f+Zw.From a) (f+Zw.To a) p.1 p.2.1 1 (k:Int)]) 0 (trs a)=Znl a (f+Zw.From a) (f+Zw.To a) (k:Int):=by
    unfold Znl
    generalize trs a=l
    have:∀ (m:Nat),cat (fun (_:Nat) (p:Int×Int×Unit)=>[Qt (f+Zw.From a) (f+Zw.To a) p.1 p.2.1 1 (k:Int)]) m l=l.map (fun p=>Qt (f+Zw.From a) (f+Zw.To a) p.1 p.2.1 1 (k:Int)):=by
     induction l with
     | nil=>intro m;rfl
     | cons p r ih=>intro m;simp [cat,ih]
    exact this 0
   simp only [Va,Int.lt_irrefl,if_false,e]
   rw [Xo (by omega)]
 ·simp only [List.nil_append,Vb,Int.lt_irrefl,if_false];rfl
/-
  Plain laws: where a pin's place is; the links of all instances.
-/
theorem Zna (d:Zc) (i j:Int) (h:Few d):Zb2 d i j=some (ZbR (fun x:Pl=>decide (x.1=i)&&decide (x.2.1=j)) (places d)):=by
 have hpl:=X5 h
 unfold Zb2
 rw [XH d h,Bq]
 refine JC (out:=fun i=>i) (show Len (places d) by show List.length _≤_;omega) (fun k x hx=>?_) ?_
 ·have hk:=(List.getElem?_eq_some_iff.1 hx).1
  simp only [ZcH,show (k:Int)<((places d).length:Int) from by omega,if_true,Zn,hx,Bq,Bool.and_eq_true,decide_eq_true_eq]
  split
  ·rename_i e1
   split
   ·rename_i e2;rw [if_pos ⟨e1,e2⟩]
   ·rename_i e2;rw [if_neg (fun q=>e2 q.2)]
  ·rename_i e1;rw [if_neg (fun q=>e1 q.1)]
 ·simp only [ZcH,Int.lt_irrefl,if_false]
theorem Zow {α β:Type} {g:Nat→α→β}:∀ {l:List α} {m j:Nat},(cat (fun j n=>[g j n]) m l)[j]?=(l[j]?).map (g (m+j))
 | [],m,j=>by simp [cat]
 | x::r,m,0=>by simp [cat]
 | x::r,m,j+1=>by
  simp only [cat,List.cons_append,List.nil_append,List.getElem?_cons_succ]
  rw [Zow (l:=r) (m:=m+1) (j:=j),show m+1+j=m+(j+1) by omega]
theorem ZiN {α β:Type} {g:Nat→α→β}:∀ {l:List α} {m:Nat},(cat (fun j n=>[g j n]) m l).length=l.length
 | [],m=>rfl
 | x::r,m=>by simp [cat,ZiN (l:=r)]
theorem ZaD (i:Nat) (x:Zg):(VH i x).length=(Zg.Xf x).length:=by unfold VH;rw [ZiN]
def fst (d:Zc) (i:Nat):Nat:=(cat VH 0 ((Zc.Instances d).take i)).length
theorem ZuI {d:Zc} {i:Nat} {x:Zg} (hx:(Zc.Instances d)[i]?=some x):fst d (i+1)=fst d i+(Zg.Xf x).length:=by
 unfold fst
 rw [Zf4 hx,List.length_append,ZaD]
theorem ZhJ {d:Zc} {i:Nat} {x:Zg} (hx:(Zc.Instances d)[i]?=some x):∃ B,places d=cat VH 0 ((Zc.Instances d).take i)++(VH i x++B):=by
 have hi:=List.getElem?_eq_some_iff.1 hx
 have e:Zc.Instances d=(Zc.Instances d).take i++(x::(Zc.Instances d).drop (i+1)):=by
  rw [←hi.2,←List.drop_eq_getElem_cons hi.1,List.take_append_drop]
 refine ⟨cat VH (i+1) ((Zc.Instances d).drop (i+1))++cat ZfR 0 (Zc.Xi d),?_⟩
 unfold places
 conv=>lhs;rw [e]
 rw [Zkk]
 have hl:((Zc.Instances d).take i).length=i:=by rw [List.length_take];have:=hi.1;omega
 rw [hl,Nat.zero_add]
 simp only [cat,List.append_assoc]
theorem Zri {d:Zc} (h:Few d) {i j:Nat} {x:Zg} (hx:(Zc.Instances d)[i]?=some x) (hj:j<(Zg.Xf x).length) :
  Zb2 d (i:Int) (j:Int)=some ((fst d i:Int)+(j:Int)):=by
 rw [Zna d _ _ h]
 obtain ⟨B,hB⟩:=ZhJ hx
 congr 1
 have hn:(Zg.Xf x)[j]?=some (Zg.Xf x)[j]:=List.getElem?_eq_getElem hj
 have hat:∀ (q:Nat) (y:Pl),(VH i x)[q]?=some y→y.1=(i:Int)∧y.2.1=(q:Int):=by
  intro q y hy
  unfold VH at hy
  rw [Zow,Nat.zero_add] at hy
  simp only [Option.map_eq_some_iff] at hy
  obtain ⟨n,_,rfl⟩:=hy
  exact ⟨rfl,rfl⟩
 have hex:∃ y,(VH i x)[j]?=some y:=⟨_,List.getElem?_eq_getElem (by rw [ZaD];exact hj)⟩
 obtain ⟨y,hy⟩:=hex
 have hy2:=hat j y hy
 have:=Zlg (p:=fun x:Pl=>decide (x.1=(i:Int))&&decide (x.2.1=(j:Int))) (l:=places d) (k:=fst d i+j) (x:=y)
  (by
   rw [hB,List.getElem?_append_right (by unfold fst;omega),show fst d i+j-(cat VH 0 ((Zc.Instances d).take i)).length=j by unfold fst;omega,List.getElem?_append_left (by rw [ZaD];exact hj)]
   exact hy)
  (by simp [hy2.1,hy2.2])
  (fun q z hq hz=>by
   rw [hB] at hz
   by_cases hqA:q<(cat VH 0 ((Zc.Instances d).take i)).length
   ·rw [List.getElem?_append_left hqA] at hz
    obtain ⟨i',x',hi',hz'⟩:=Qw.1 (List.mem_of_getElem? hz)
    have hlt:i'<i:=by
     have:=(List.getElem?_eq_some_iff.1 hi').1
     rw [List.length_take] at this
     omega
    rw [Nat.zero_add] at hz'
    have:z.1=(i':Int):=by
     unfold VH at hz'
     obtain ⟨j',n,_,hn'⟩:=Qw.1 hz'
     simp only [List.mem_singleton] at hn'
     rw [hn']
    have hne:¬z.1=(i:Int):=by omega
    simp [hne]
   ·have hq2:q-(cat VH 0 ((Zc.Instances d).take i)).length<j:=by unfold fst at hq;omega
    rw [List.getElem?_append_right (by omega),List.getElem?_append_left (by rw [ZaD];omega)] at hz
    have:=(hat _ _ hz).2
    have hne:¬z.2.1=(j:Int):=by omega
    simp [hne])
 rw [this]
 omega
def Zlx (b:Zd) (i:Nat) (x:Zg):List Zq:=match (Zt.Cells (Zd.Library b))[(Zg.Cell x).toNat]? with
 | some c=>Zr3 c (fst (Zd.Design b) i:Int)
 | none=>[]
def ZjD (b:Zd):List Zq:=cat (Zlx b) 0 (Zc.Instances (Zd.Design b))
theorem Zpp (c:Zi) (f:Int) (h:(Zi.VI c).length≤8):(Zr3 c f).length≤32:=by
 have:=VQ (f:=fun i a=>Znl a (f+Zw.From a) (f+Zw.To a) (i:Int)) (c:=4) (l:=Zi.VI c) (m:=0) (fun i a _=>by simp only [Znl,List.length_map];exact Zpe a)
 unfold Zr3
 omega
theorem Zvq {d:Zc} (h:Few d) (i:Nat):fst d i≤70:=ZbQ h i
theorem Ztt {b:Zd} (h:Qm b) (i:Nat) (x:Zg) (hx:x∈Zc.Instances (Zd.Design b)):(Zlx b i x).length≤32:=by
 obtain ⟨c,h1,h2,_⟩:=ZfH h hx 0 (by omega)
 unfold Zlx
 rw [h1]
 exact Zpp c _ h2.2.2.1.1
theorem Zf2 {b:Zd} (h:Qm b) (k:Nat):(cat (Zlx b) 0 ((Zc.Instances (Zd.Design b)).take k)).length≤448:=by
 have h1:=h.ok.1.few.insts
 have:=VQ (f:=Zlx b) (c:=32) (l:=(Zc.Instances (Zd.Design b)).take k) (m:=0) (fun i x hx=>Ztt h i x (List.mem_of_mem_take hx))
 rw [List.length_take] at this
 omega
/-
  Plain laws: the links of all instances, by the reference and by the program; drivers.
-/
theorem Zp6 {b:Zd} (h:Qm b) {i:Nat} {x:Zg} (hx:(Zc.Instances (Zd.Design b))[i]?=some x) {c:Zi} (hc:(Zt.Cells (Zd.Library b))[(Zg.Cell x).toNat]?=some c) (acc:List Zq) (ha:acc.length≤100000) :
  Zm (fun v=>Jo b (i:Int) c v.1 v.2.1) (acc,(0:Int),())=some (.inl (acc++Zr3 c (fst (Zd.Design b) i:Int),((i+1:Nat):Int),())):=by
 have hf:=h.ok.1.few
 have hi:=(List.getElem?_eq_some_iff.1 hx).1
 have h14:=hf.insts
 have hxm:=List.mem_of_getElem? hx
 obtain ⟨_,⟨c',hc1,hc2⟩,_⟩:=h.ok.1.2.2.1 x hxm
 rw [hc] at hc1;injection hc1 with hc1;subst hc1
 have hC:=h.ok.1.1.2.1 c (List.mem_of_getElem? hc)
 have hA:=hC.2.2.1.1
 have hpn:=hC.2.1.2.1
 have h70:=Zvq hf i
 refine Xp (l:=Zi.VI c) (fun k a=>Znl a ((fst (Zd.Design b) i:Int)+Zw.From a) ((fst (Zd.Design b) i:Int)+Zw.To a) (k:Int)) acc (fun k a hka hk=>?_) ?_
 ·have hao:=(hC.2.2.1.2 k a hka).1
  have hl:=VQ (f:=fun k a=>Znl a ((fst (Zd.Design b) i:Int)+Zw.From a) ((fst (Zd.Design b) i:Int)+Zw.To a) (k:Int)) (c:=4) (l:=(Zi.VI c).take k) (m:=0) (fun i a _=>by simp only [Znl,List.length_map];exact Zpe a)
  rw [List.length_take] at hl
  simp only [Jo,show (k:Int)<((Zi.VI c).length:Int) from by omega,if_true,Zn,hka,Bq]
  generalize cat (fun k a=>Znl a ((fst (Zd.Design b) i:Int)+Zw.From a) ((fst (Zd.Design b) i:Int)+Zw.To a) (k:Int)) 0 ((Zi.VI c).take k)=acc2 at hl
  have h1:=hao.1
  have h2:=hao.2.1
  by_cases hk3:Zw.Kind a≤3
  ·have e1:=Zri hf hx (j:=(Zw.From a).toNat) (by omega)
   have e2:=Zri hf hx (j:=(Zw.To a).toNat) (by omega)
   rw [show ((Zw.From a).toNat:Int)=Zw.From a by omega] at e1
   rw [show ((Zw.To a).toNat:Int)=Zw.To a by omega] at e2
   rw [if_pos hk3,e1,Bq,e2,Bq,ZnR _ a _ _ _ (by rw [List.length_append];omega) (by omega) (by omega) (fun hk1=>by
    rcases hao.2.2 with hh | hh | hh
    ·exact hh.2.2.2.1
    ·have:=hh.1;omega
    ·have:=hh.1;omega),Bq,Xo (by omega)]
  ·rw [if_neg hk3,Xo (by omega)]
   have e:Znl a ((fst (Zd.Design b) i:Int)+Zw.From a) ((fst (Zd.Design b) i:Int)+Zw.To a) (k:Int)=[]:=by
    unfold Znl trs
    rw [if_neg (by omega),if_neg (by omega),if_neg (by omega)]
    rfl
   rw [e,List.append_nil]
 ·simp only [Jo,Int.lt_irrefl,if_false]
  rw [Xo (by omega)]
  rfl
/-
  Plain laws: the view's links are the reference's.
-/
def Zul (d:Zc) (n:Int):List Zq:=cat (fun j s=>[Qt (ZgU d n) s 0 0 2 (j:Int),Qt (ZgU d n) s 1 1 2 (j:Int)]) 0 (sinks d n)
theorem Zu2 {d:Zc} (h:Few d) (n:Int):(Zul d n).length≤156:=by
 have h1:=VQ (f:=fun j s=>[Qt (ZgU d n) s 0 0 2 (j:Int),Qt (ZgU d n) s 1 1 2 (j:Int)]) (c:=2) (l:=sinks d n) (m:=0) (fun _ _ _=>by simp)
 have h2:=ZdH n (places d) 0
 have h3:=X5 h
 unfold Zul
 have:(sinks d n).length≤78:=by unfold sinks;omega
 omega
theorem Zps {α β γ:Type} (f:Nat→List γ):∀ (l:List α) (r:List β) (m:Nat),l.length=r.length→cat (fun k _=>f k) m l=cat (fun k _=>f k) m r
 | [],[],_,_=>rfl
 | [],_::_,_,h=>by simp at h
 | _::_,[],_,h=>by simp at h
 | _::l,_::r,m,h=>by simp only [cat];rw [Zps f l r (m+1) (by simpa using h)]
def ZrG (b:Zd):List Zq:=cat (fun v _=>Zul (Zd.Design b) (v:Int)) 0 (Zd.YG b)
def Zx (b:Zd):List Zq:=ZjD b++ZrG b
theorem ZiM {b:Zd} (h:Qm b) {α:Type} (l:List α):(cat (fun v _=>Zul (Zd.Design b) (v:Int)) 0 l).length≤156*l.length :=
 VQ (f:=fun v _=>Zul (Zd.Design b) (v:Int)) (c:=156) (l:=l) (m:=0) (fun v _ _=>Zu2 h.ok.1.few _)
theorem Zgh {b:Zd} (h:Qm b):(ZjD b).length≤448:=by
 have:=Zf2 h (Zc.Instances (Zd.Design b)).length
 rw [List.take_length] at this
 exact this
theorem Zrb {b:Zd} (h:Qm b) {v:Nat} (hv:v<(Zc.Xf (Zd.Design b)).length):0≤ZgU (Zd.Design b) (v:Int)∧ZgU (Zd.Design b) (v:Int)<((places (Zd.Design b)).length:Int):=by
 obtain ⟨q,y,hq,_,e,_⟩:=Zte h.ok.1 (Zk4 h.sm).2.1 hv
 have:=(List.getElem?_eq_some_iff.1 hq).1
 rw [e];omega
theorem ZdX {b:Zd} (h:Qm b):ZaL b=some (Zx b):=by
 have hf:=h.ok.1.few
 have h14:=hf.insts
 have h30:=h.ok.1.2.1.2.1
 have hpl:=X5 hf
 unfold ZaL
 refine Xp (l:=Zc.Instances (Zd.Design b)) (Zlx b) [] (fun i x hx hi=>?_) ?_
 ·have hxm:=List.mem_of_getElem? hx
  obtain ⟨hc,⟨c,hc1,hc2⟩,_⟩:=h.ok.1.2.2.1 x hxm
  have hl:=Zf2 h i
  simp only [List.nil_append,ZbO,show (i:Int)<((Zc.Instances (Zd.Design b)).length:Int) from by omega,if_true,Zn,hx,Bq,Qj hc.1 hc1]
  rw [Zp6 h hx hc1 _ (by omega)]
  have e:Zlx b i x=Zr3 c (fst (Zd.Design b) i:Int):=by unfold Zlx;rw [hc1]
  rw [e]
 ·have hil:=Zgh h
  simp only [List.nil_append,ZbO,Int.lt_irrefl,if_false]
  refine Xp (l:=Zc.Xf (Zd.Design b)) (fun v _=>Zul (Zd.Design b) (v:Int)) (ZjD b) (ρ:=(List Zq×Int×Unit) ⊕ List Zq) (good:=.inr (Zx b)) (fun v s hs hv=>?_) ?_
  ·have hdr:=Zrb h hv
   have hl:=ZiM h ((Zc.Xf (Zd.Design b)).take v)
   rw [List.length_take] at hl
   have e1:Zba (Zd.Design b) (v:Int)=some (ZgU (Zd.Design b) (v:Int)):=Zk7 _ _ hf
   simp only [ZbN,show (v:Int)<((Zc.Xf (Zd.Design b)).length:Int) from by omega,if_true,e1,Bq,ZdW _ _ hf]
   have hsl:(sinks (Zd.Design b) (v:Int)).length≤78:=by
    have:=ZdH (v:Int) (places (Zd.Design b)) 0
    unfold sinks;omega
   generalize hacc:ZjD b++cat (fun v _=>Zul (Zd.Design b) (v:Int)) 0 ((Zc.Xf (Zd.Design b)).take v)=acc
   have hal:acc.length≤10000:=by rw [←hacc,List.length_append];omega
   refine Xp (l:=sinks (Zd.Design b) (v:Int)) (fun j s=>[Qt (ZgU (Zd.Design b) (v:Int)) s 0 0 2 (j:Int),Qt (ZgU (Zd.Design b) (v:Int)) s 1 1 2 (j:Int)]) acc (fun j y hy hj=>?_) ?_
   ·have hyb:=ZhH (List.mem_of_getElem? hy)
    have hl2:=VQ (f:=fun j s=>[Qt (ZgU (Zd.Design b) (v:Int)) s 0 0 2 (j:Int),Qt (ZgU (Zd.Design b) (v:Int)) s 1 1 2 (j:Int)]) (c:=2) (l:=(sinks (Zd.Design b) (v:Int)).take j) (m:=0) (fun _ _ _=>by simp)
    rw [List.length_take] at hl2
    simp only [ZbM,show (j:Int)<((sinks (Zd.Design b) (v:Int)).length:Int) from by omega,if_true,Zn,hy,Bq]
    rw [ZqO _ _ _ _ _ _ _ (by rw [List.length_append];omega) (by omega) (by omega) (by omega) (by omega),Bq,ZqO _ _ _ _ _ _ _ (by simp only [List.length_append,List.length_singleton];omega) (by omega) (by omega) (by omega) (by omega),Bq,Xo (by omega)]
    simp only [List.append_assoc,List.cons_append,List.nil_append]
   ·simp only [ZbM,Int.lt_irrefl,if_false]
    rw [Xo (by omega)];rfl
  ·simp only [ZbN,Int.lt_irrefl,if_false]
   rw [Zps (fun v=>Zul (Zd.Design b) (v:Int)) (Zc.Xf (Zd.Design b)) (Zd.YG b) 0 h.ok.2.1.symm]
   rfl
/-
  Plain laws: the view, with its links.
-/
structure Stand (d:Zc) (n k:Nat) (l0:List Int) (l1:List (List Int)):Prop where
 n0:l0.length=n
 n1:l1.length=n
 drv:∀ (v q:Nat) (y:Pl),v<n→q<k→(places d)[q]?=some y→Zr8 (v:Int) y=true→l0[v]?=some (q:Int)
 snk:∀ (v:Nat),v<n→l1[v]?=some (cat (ZeT (v:Int)) 0 ((places d).take k))
noncomputable def ldF (b:Zd) (v:Nat):Int:=((Yh b (v:Int)).bind (fun r=>r[0]?)).getD 0
noncomputable def edF (b:Zd) (v:Nat):List Int:=(YT b (v:Int)).getD []
theorem ZqL {b:Zd} (h:Qm b):∃ v,ZdA b=some v∧ZE.places v=places (Zd.Design b)∧ZE.Block v=b∧ZE.links v=Zx b∧ZE.loads v=(List.range (Zd.YG b).length).map (ldF b)∧ZE.Zg7 v=(List.range (Zd.YG b).length).map (edF b)∧ZE.extras v=[]:=by
 have hD:=h.ok.1
 have hf:=hD.few
 have hsd:=(Zk4 h.sm).2.1
 have hpl:=X5 hf
 have h14:=hf.insts
 have hwn:=h.ok.2.1
 have h30:=hD.2.1.2.1
 have hil:=Zgh h
 unfold ZdA
 rw [XB _ hf,Bq]
 refine Zi4 (l:=Zc.Instances (Zd.Design b)) (fun k v=>v.1=((fst (Zd.Design b) k:Nat):Int)∧v.2.1=(k:Int)∧v.2.2.1=cat (Zlx b) 0 ((Zc.Instances (Zd.Design b)).take k)) _ ⟨rfl,rfl,rfl⟩ ?_ ?_
 ·rintro k x ⟨n,i,c,⟨⟩⟩ hx hk ⟨hn,hi,hc⟩
  simp only at hn hi hc
  subst hi
  subst hn
  subst hc
  have h70:=Zvq hf k
  have hl:=Zf2 h k
  obtain ⟨c,h1,h2,h3⟩:=ZfH h (List.mem_of_getElem? hx) ((fst (Zd.Design b) k:Nat):Int) (by omega)
  have hal:=Zpp c ((fst (Zd.Design b) k:Nat):Int) h2.2.2.1.1
  have hnx:=hf.nets x (List.mem_of_getElem? hx)
  simp only [Zcm,show (k:Int)<((Zc.Instances (Zd.Design b)).length:Int) from by omega,if_true,Zn,hx,h3,Bq,ZaP]
  rw [Zh (by omega)]
  refine ⟨_,rfl,?_,?_,?_⟩
  ·simp only;rw [YZ (by omega) (by omega),ZuI hx];omega
  ·simp only;rw [Xo (by omega)]
  ·simp only
   rw [Zf4 hx]
   congr 1
   unfold Zlx;rw [h1]
 ·rintro ⟨n,i,c0,⟨⟩⟩ ⟨_,hi,hc0⟩
  simp only at hi hc0
  subst hi
  rw [List.take_length] at hc0
  have hc0l:c0.length≤448:=by rw [hc0];exact hil
  simp only [Zcm,Int.lt_irrefl,if_false]
  rw [Zh (by omega),Zh (by omega),Zh (by omega),Zh (by omega),Zh (by omega)]
  obtain ⟨r,hr1,r',rfl,hr2⟩:=Zi4 (l:=places (Zd.Design b)) (ρ:=(Int×Int×List Zq×Unit) ⊕ ZE) (step:=fun v=>JU b (places (Zd.Design b)) c0 v.1 v.2.1 v.2.2.1) (v:=((0:Int),List.replicate (Int.toNat (↑(List.length (Zd.YG b)):Int)) (0:Int),List.replicate (Int.toNat (↑(List.length (Zd.YG b)):Int)) (([]:List Int)),()))
   (fun k v=>v.1=(k:Int)∧Stand (Zd.Design b) (Zd.YG b).length k v.2.1 v.2.2.1)
   (fun r=>∃ r',r=.inr r'∧ZE.places r'=places (Zd.Design b)∧ZE.Block r'=b∧ZE.links r'=Zx b∧ZE.loads r'=(List.range (Zd.YG b).length).map (ldF b)∧ZE.Zg7 r'=(List.range (Zd.YG b).length).map (edF b)∧ZE.extras r'=[])
   ⟨rfl,by simp,by simp,fun v q y _ hq=>by omega,fun v hv=>by
    rw [List.take_zero]
    simp only [cat]
    rw [List.getElem?_replicate,if_pos (by omega)]⟩
   (by
    rintro k x ⟨i,l0,l1,⟨⟩⟩ hx hk ⟨hi,hS⟩
    simp only at hi hS
    subst hi
    have hn:=ZpU hD (List.mem_of_getElem? hx)
    have hn1:=hn.2
    have hn00:0≤x.2.2.1:=hn.1
    have htn:YD.net x=x.2.2.1:=rfl
    simp only [JU,show (k:Int)<((places (Zd.Design b)).length:Int) from by omega,if_true,Zn,hx,Bq]
    have hn0:=hS.n0
    have hn2:=hS.n1
    obtain ⟨q,hq1,_⟩:=Zh6 (l:=l0) hn.1 (by omega)
    obtain ⟨p,hp1,_⟩:=Zh6 (l:=l1) hn.1 (by omega)
    have hpv:p=cat (ZeT x.2.2.1) 0 ((places (Zd.Design b)).take k):=by
     have e:=hS.snk (x.2.2.1).toNat (by omega)
     have e2:l1[(x.2.2.1).toNat]?=some p:=by
      have:=hp1
      unfold atI at this
      rw [if_pos hn.1] at this
      exact this
     rw [e] at e2
     injection e2 with e2
     rw [←e2,show (((x.2.2.1).toNat:Nat):Int)=x.2.2.1 by omega]
    have hpl2:p.length≤78:=by
     rw [hpv]
     have:=ZdH x.2.2.1 ((places (Zd.Design b)).take k) 0
     rw [List.length_take] at this
     omega
    by_cases hd:x.2.2.2.1=true
    ·rw [if_pos hd,show atI l0 (YD.net x)=some q from hq1,Bq]
     refine ⟨_,rfl,by simp only;rw [Xo (by omega)],?_,?_,?_,?_⟩
     ·simp [hn0]
     ·exact hn2
     ·intro v p' y hv hp' hy hdy
      simp only
      rw [List.getElem?_set]
      by_cases hnet:(YD.net x).toNat=v
      ·rw [if_pos hnet,if_pos (by omega)]
       obtain ⟨q',_,_,_,_,uniq⟩:=Zte hD hsd (v:=v) (by omega)
       have hxd:Zr8 (v:Int) x=true:=by
        unfold Zr8
        have:x.2.2.1=(v:Int):=by rw [←hnet];show x.2.2.1=((x.2.2.1).toNat:Int);omega
        simp [this,hd]
       have e1:=uniq k x hx hxd
       have e2:=uniq p' y hy hdy
       rw [e1,e2]
      ·rw [if_neg hnet]
       have hpk:p'≠k:=by
        intro e
        subst e
        rw [hx] at hy
        injection hy with hy
        subst hy
        unfold Zr8 at hdy
        simp only [Bool.and_eq_true,decide_eq_true_eq] at hdy
        exact hnet (by show (x.2.2.1).toNat=v;omega)
       exact hS.drv v p' y hv (by omega) hy hdy
     ·intro v hv
      simp only
      rw [hS.snk v hv,Zf4 hx]
      congr 1
      have:ZeT (v:Int) k x=[]:=by
       unfold ZeT
       rw [if_pos hd]
       split<;>rfl
      rw [this,List.append_nil]
    ·rw [if_neg hd,show atI l1 (YD.net x)=some p from hp1,Bq,Zh (by simp;omega)]
     refine ⟨_,rfl,by simp only;rw [Xo (by omega)],hn0,?_,?_,?_⟩
     ·simp [hn2]
     ·intro v p' y hv hp' hy hdy
      have hpk:p'≠k:=by
       intro e
       subst e
       rw [hx] at hy
       injection hy with hy
       subst hy
       unfold Zr8 at hdy
       simp only [Bool.and_eq_true] at hdy
       exact hd hdy.2
      exact hS.drv v p' y hv (by omega) hy hdy
     ·intro v hv
      simp only
      rw [List.getElem?_set,Zf4 hx]
      by_cases hnet:(YD.net x).toNat=v
      ·have hxv:x.2.2.1=(v:Int):=by rw [←hnet];show x.2.2.1=((x.2.2.1).toNat:Int);omega
       rw [if_pos hnet,if_pos (by omega),hpv,hxv]
       unfold ZeT
       rw [if_pos hxv,if_neg hd]
      ·have hxv:¬x.2.2.1=(v:Int):=fun e=>hnet (by show (x.2.2.1).toNat=v;omega)
       rw [if_neg hnet,hS.snk v hv]
       have:ZeT (v:Int) k x=[]:=by unfold ZeT;rw [if_neg hxv]
       rw [this,List.append_nil])
   (by
    rintro ⟨i,l0,l1,⟨⟩⟩ ⟨hi,hS⟩
    simp only at hi hS
    subst hi
    simp only [JU,Int.lt_irrefl,if_false]
    have hS0:=hS.n0
    obtain ⟨r,hr1,r',rfl,hr2⟩:=Zi4 (l:=Zd.YG b) (ρ:=(Int×List Int×List (List Int)×Unit) ⊕ ((Int×Int×List Zq×Unit) ⊕ ZE)) (step:=fun v=>JR b (places (Zd.Design b)) l0 v.1 v.2.1 v.2.2.1 v.2.2.2.1 v.2.2.2.2.1) (v:=((0:Int),([]:List Int),([]:List (List Int)),c0,l1,()))
     (fun k v=>v.1=(k:Int)∧v.2.1=(List.range k).map (ldF b)∧v.2.2.1=(List.range k).map (edF b)∧v.2.2.2.1=c0++cat (fun v _=>Zul (Zd.Design b) (v:Int)) 0 ((Zd.YG b).take k)∧v.2.2.2.2.1=l1)
     (fun r=>∃ r',r=.inr (.inr r')∧ZE.places r'=places (Zd.Design b)∧ZE.Block r'=b∧ZE.links r'=Zx b∧ZE.loads r'=(List.range (Zd.YG b).length).map (ldF b)∧ZE.Zg7 r'=(List.range (Zd.YG b).length).map (edF b)∧ZE.extras r'=[])
     ⟨rfl,rfl,rfl,by simp [cat],rfl⟩
     (by
      rintro k w ⟨i,c1,c2,c3,l2,⟨⟩⟩ hw hk ⟨hi,g1,g2,g3,g4⟩
      simp only at hi g1 g2 g3 g4
      subst hi
      subst g4
      have hc3:c3.length≤5200:=by
       have:=ZiM h ((Zd.YG b).take k)
       rw [List.length_take] at this
       rw [g3,List.length_append];omega
      obtain ⟨nl,hnl,hnl2⟩:=Zj4 h hw
      obtain ⟨ed,hed,hed2⟩:=Zma h hw
      have hpar:=(h.ok.2.2 k w hw).1.1
      have g1l:c1.length=k:=by rw [g1];simp
      have g2l:c2.length=k:=by rw [g2];simp
      have hld:ldF b k=nl[0]:=by
       unfold ldF
       rw [hnl,Bq,List.getElem?_eq_getElem (by omega)]
       rfl
      have hedf:edF b k=ed:=by
       unfold edF
       rw [hed]
       rfl
      have hn0:atI nl (0:Int)=some nl[0]:=(show nl[0]?=some nl[0] from List.getElem?_eq_getElem (by omega))
      have hl2:=hS.snk k hk
      rw [List.take_length] at hl2
      obtain ⟨dq,dy,hdq,hdy,hdo,_⟩:=Zte hD hsd (v:=k) (by omega)
      have hl0:=hS.drv k dq dy hk (List.getElem?_eq_some_iff.1 hdq).1 hdq hdy
      have hdl:=(List.getElem?_eq_some_iff.1 hdq).1
      have hl2':l2[k]?=some (sinks (Zd.Design b) (k:Int)):=hl2
      have hsl:(sinks (Zd.Design b) (k:Int)).length≤78:=by
       have:=ZdH (k:Int) (places (Zd.Design b)) 0
       unfold sinks;omega
      simp only [JR,show (k:Int)<((Zd.YG b).length:Int) from by omega,if_true,hnl,hn0,hed,Bq,Zn,hl2']
      rw [Zh (by simp;omega),Zh (by simp;omega)]
      obtain ⟨r,hr1,r',rfl,hr2⟩:=Zi4 (l:=sinks (Zd.Design b) (k:Int)) (ρ:=(Int×List Int×List (List Int)×List Zq×List (List Int)×Unit) ⊕ ((Int×List Int×List (List Int)×Unit) ⊕ ((Int×Int×List Zq×Unit) ⊕ ZE))) (step:=fun v=>JQ l0 (k:Int) c1 c2 l2 nl[0] ed (sinks (Zd.Design b) (k:Int)) v.1 v.2.1) (v:=((0:Int),c3,()))
       (fun m v=>v.1=(m:Int)∧v.2.1=c3++cat (fun j s=>[Qt (ZgU (Zd.Design b) (k:Int)) s 0 0 2 (j:Int),Qt (ZgU (Zd.Design b) (k:Int)) s 1 1 2 (j:Int)]) 0 ((sinks (Zd.Design b) (k:Int)).take m))
       (fun r=>∃ r',r=.inl r'∧r'.1=((k+1:Nat):Int)∧r'.2.1=(List.range (k+1)).map (ldF b)∧r'.2.2.1=(List.range (k+1)).map (edF b)∧r'.2.2.2.1=c0++cat (fun v _=>Zul (Zd.Design b) (v:Int)) 0 ((Zd.YG b).take (k+1))∧r'.2.2.2.2.1=l2)
       ⟨rfl,by simp [cat]⟩
       (by
        rintro m y ⟨i,c4,⟨⟩⟩ hy hm ⟨hi,gc⟩
        simp only at hi gc
        subst hi
        have hyb:=ZhH (List.mem_of_getElem? hy)
        have hc4:c4.length≤6000:=by
         have:=VQ (f:=fun j s=>[Qt (ZgU (Zd.Design b) (k:Int)) s 0 0 2 (j:Int),Qt (ZgU (Zd.Design b) (k:Int)) s 1 1 2 (j:Int)]) (c:=2) (l:=(sinks (Zd.Design b) (k:Int)).take m) (m:=0) (fun _ _ _=>by simp)
         rw [List.length_take] at this
         rw [gc,List.length_append];omega
        simp only [JQ,show (m:Int)<((sinks (Zd.Design b) (k:Int)).length:Int) from by omega,if_true,Zn,hy,Bq]
        have st:∀ (j:Nat) (c5:List Zq),j<2→c5.length≤6100→Vp l0 (k:Int) (m:Int) y (j:Int) c5=some (.inl (((j+1:Nat):Int),c5++[Qt (dq:Int) y (j:Int) (j:Int) 2 (m:Int)],())):=by
         intro j c5 hj hc5
         simp only [Vp,show (j:Int)<(2:Int) from by omega,if_true,Zn,hl0,Bq]
         rw [Zh (by simp;omega),YZ (n:=2*(dq:Int)) (by omega) (by omega),YZ (n:=2*(dq:Int)+(j:Int)) (by omega) (by omega),YZ (n:=2*y) (by omega) (by omega),YZ (n:=2*y+(j:Int)) (by omega) (by omega),Xo (by omega)]
         rfl
        have s0:=st 0 c4 (by omega) (by omega)
        have s1:=st 1 (c4++[Qt (dq:Int) y ((0:Nat):Int) ((0:Nat):Int) 2 (m:Int)]) (by omega) (by simp;omega)
        have hw2:Zm (fun v=>Vp l0 (k:Int) (m:Int) y v.1 v.2.1) ((0:Int),c4,())=some (.inl (((m+1:Nat):Int),c4++[Qt (dq:Int) y ((0:Nat):Int) ((0:Nat):Int) 2 (m:Int)]++[Qt (dq:Int) y ((1:Nat):Int) ((1:Nat):Int) 2 (m:Int)],())):=by
         rw [Xh (v':=(((0+1:Nat):Int),c4++[Qt (dq:Int) y ((0:Nat):Int) ((0:Nat):Int) 2 (m:Int)],())) s0,Xh (v':=(((1+1:Nat):Int),c4++[Qt (dq:Int) y ((0:Nat):Int) ((0:Nat):Int) 2 (m:Int)]++[Qt (dq:Int) y ((1:Nat):Int) ((1:Nat):Int) 2 (m:Int)],())) s1,Xe]
         simp only [Vp]
         rw [if_neg (by omega),Xo (by omega)]
        refine ⟨_,hw2,rfl,?_⟩
        simp only
        rw [gc,Zf4 hy,hdo]
        simp only [List.append_assoc,List.cons_append,List.nil_append,Int.natCast_zero,Int.natCast_one])
       (by
        rintro ⟨i,c4,⟨⟩⟩ ⟨hi,gc⟩
        simp only at hi gc
        subst hi
        rw [List.take_length] at gc
        simp only [JQ,Int.lt_irrefl,if_false]
        refine ⟨_,rfl,_,rfl,by simp only;rw [Xo (by omega)],by simp only;rw [g1,List.range_succ,List.map_append,List.map_singleton,hld],by simp only;rw [g2,List.range_succ,List.map_append,List.map_singleton,hedf],?_,?_⟩
        ·simp only
         rw [gc,g3,Zf4 hw,List.append_assoc]
         rfl
        ·simp only
         apply List.ext_getElem?
         intro i
         rw [List.getElem?_set]
         split
         ·rename_i e
          have e:k=i:=by simpa using e
          subst e
          rw [hl2']
          split
          ·rfl
          ·rename_i hlt
           exact absurd (by have:=hS.n1;simpa using (show k<l2.length by omega)) hlt
         ·rfl)
      exact ⟨r',hr1,hr2⟩)
     (by
      rintro ⟨i,c1,c2,c3,l2,⟨⟩⟩ ⟨hi,g1,g2,g3,g4⟩
      simp only at hi g3
      subst hi
      rw [List.take_length] at g3
      simp only [JR,Int.lt_irrefl,if_false]
      refine ⟨_,rfl,_,rfl,rfl,rfl,?_,g1,g2,rfl⟩
      show c3=Zx b
      rw [g3,hc0];rfl)
    exact ⟨_,hr1,_,rfl,hr2⟩)
  exact ⟨r',hr1,hr2⟩
/-
  Plain laws: valid corners.
-/
def ZsJ (e l:Int):Prop:=100≤e∧e≤l∧l≤5000
def JL (c:Zv):Prop:=Jv (Zv.Name c)=true∧ZsJ (Zv.JZ c) (Zv.Zbg c)∧ZsJ (Zv.J2 c) (Zv.Zb3 c)
theorem Zva {c:Zv} (h:sm X3 c):(Zv.Name c).length≤4611686018427387904:=by
 refine ZfU ?_
 first | exact h.1 | exact h.2.1
theorem Zjk (e l:Int):J5 e l=some (tr (ZsJ e l)):=by
 unfold J5 ZsJ
 exact YK (fun _=>YK (fun _=>ZcQ decide_eq_true_iff))
theorem Zlt (c:Zv):Zd8 c=some (tr (JL c)):=by
 unfold Zd8
 exact YL (by rw [Zfx];exact ZcQ Iff.rfl) (fun _=>YL (Zjk _ _) (fun _=>Zb4 (Zjk _ _)))
theorem ZgP (c:Zv) (h:sm X3 c):ZcA c=some (tr (JL c)):=by
 unfold ZcA
 rw [QX (l:=[Zv.JZ c,Zv.Zbg c,Zv.J2 c,Zv.Zb3 c]) (show List.length _≤_ by simp) (fun _ x=>(100:Int)≤x∧x≤5000) (bad:=false) (good:=tr (Jv (Zv.Name c)=true∧Zv.JZ c≤Zv.Zbg c∧Zv.J2 c≤Zv.Zb3 c))
  (fun k x hx hk _=>by
   simp only [ZbC,show (k:Int)<((List.length [Zv.JZ c,Zv.Zbg c,Zv.J2 c,Zv.Zb3 c]:Nat):Int) from by omega,if_true,Zn,hx,Bq,Ji]
   constructor
   ·intro hh;rw [if_pos (Yc hh)]
   ·intro hh;rw [if_neg (fun q=>hh ((Xx _).1 q))])
  (fun _=>by
   simp only [ZbC,Int.lt_irrefl,if_false,ZcF _ (Zva h),Bq]
   by_cases a:Jv (Zv.Name c)=true
   ·rw [if_pos a]
    by_cases b:Zv.JZ c≤Zv.Zbg c
    ·rw [if_pos b]
     congr 2
     exact (ZnX (by rw [decide_eq_true_eq];exact ⟨fun q=>⟨a,b,q⟩,fun q=>q.2.2⟩)).symm
    ·rw [if_neg b,Z7 (fun q=>b q.2.1)]
   ·rw [if_neg a,Z7 (fun q=>a q.1)]),Zh3]
 congr 1
 refine QI ?_
 rw [Zbf]
 simp only [List.mem_cons,List.not_mem_nil,or_false,forall_eq_or_imp,forall_eq]
 unfold JL ZsJ
 constructor
 ·rintro ⟨⟨q1,q2,q3,q4⟩,q5,q6,q7⟩;exact ⟨q5,by omega,by omega⟩
 ·rintro ⟨q5,q6,q7⟩;exact ⟨by omega,q5,by omega,by omega⟩
/-
  Plain laws: live links, rising lists.
-/
def Zd5 (n:Nat) (br:List Int):List Bool:=(List.range n).map (fun (k:Nat)=>!decide ((k:Int)∈br))
theorem ZkU (n:Nat) (br:List Int):(Zd5 n br).length=n:=by simp [Zd5]
theorem ZnS (l:List Int) (x:Int) (hl:l.length≤1048576):Zgy l x=some (decide (x∈l)):=by
 unfold Zgy
 rw [JC (l:=l) (p:=fun y=>decide (y=x)) (out:=fun i=>decide (0≤i)) (show List.length _≤_ by omega) (fun k y hy=>by
  have hk:=(List.getElem?_eq_some_iff.1 hy).1
  simp only [Zc9,show (k:Int)<(l.length:Int) from by omega,if_true,Zn,hy,Bq,decide_eq_true_eq]
  split
  ·rw [decide_eq_true (by omega)]
  ·rfl) (by simp only [Zc9,Int.lt_irrefl,if_false];rfl)]
 congr 1
 rw [decide_eq_decide,Zay,List.any_eq_true]
 constructor
 ·rintro ⟨y,hy,e⟩;simp at e;subst e;exact hy
 ·intro h;exact ⟨x,h,by simp⟩
theorem ZhQ (L:List Zq) (br:List Int) (hL:L.length≤6000) (hb:br.length≤1048576):ZdL L br=some (Zd5 L.length br):=by
 have e:cat (fun k (_:Zq)=>[!decide ((k:Int)∈br)]) 0 L=Zd5 L.length br:=by
  apply List.ext_getElem?
  intro j
  rw [Zow]
  unfold Zd5
  rw [List.getElem?_map,Nat.zero_add]
  by_cases h:j<L.length
  ·rw [List.getElem?_eq_getElem h,List.getElem?_range h];rfl
  ·rw [List.getElem?_eq_none (by omega),List.getElem?_eq_none (by simp;omega)];rfl
 unfold ZdL
 refine Xp (l:=L) (fun k (_:Zq)=>[!decide ((k:Int)∈br)]) [] (fun k x hx hk=>?_) ?_
 ·have h1:(cat (fun k (_:Zq)=>[!decide ((k:Int)∈br)]) 0 (L.take k)).length=(L.take k).length:=ZiN
  rw [List.length_take] at h1
  simp only [List.nil_append,ZcI,show (k:Int)<(L.length:Int) from by omega,if_true,ZnS br _ hb,Bq]
  rw [Zh (by rw [List.length_singleton];omega),Xo (by omega)]
 ·simp only [List.nil_append,ZcI,Int.lt_irrefl,if_false,e]
theorem Zsg {n:Nat} {s:List Int} {x:Int} (h0:0≤x) (h1:x<(n:Int)):List.set (Zd5 n s) (Int.toNat x) false=Zd5 n (s++[x]):=by
 apply List.ext_getElem?
 intro j
 rw [List.getElem?_set]
 unfold Zd5
 rw [List.getElem?_map,List.getElem?_map,List.length_map,List.length_range]
 by_cases hj:j<n
 ·rw [List.getElem?_range hj]
  by_cases e:x.toNat=j
  ·rw [if_pos e,if_pos (by omega)]
   have:(j:Int)=x:=by omega
   simp [this]
  ·rw [if_neg e]
   have:¬(j:Int)=x:=by omega
   simp [this]
 ·rw [List.getElem?_eq_none (l:=List.range n) (by simp;omega)]
  split
  ·rw [if_neg (by omega)];rfl
  ·rfl
theorem Zsb (v:ZE) (br:List Int) (hL:(ZE.links v).length≤6000) (hb:Zf0 br 0 (((ZE.links v).length:Int)-1)) (hbl:br.length≤1048576):QO v br=some (v,Zd5 (ZE.links v).length br,()):=by
 unfold QO
 rw [Zh (by omega),Zh (by omega),Zh (by omega),Zh (by omega)]
 generalize hn:(ZE.links v).length=n at *
 have hlen:List.length (List.replicate (Int.toNat (n:Int)) false)=n:=by simp
 have hrest:Zm (fun w=>XT v br w.1 w.2.1) ((0:Int),List.replicate n true,())=some (.inr (v,Zd5 n br,())):=by
  have:=Jl (l:=br) (ρ:=(Int×List Bool×Unit) ⊕ Yp) (fun k=>((k:Int),Zd5 n (br.take k),())) (step:=fun w=>XT v br w.1 w.2.1) (good:=.inr (v,Zd5 n br,()))
   (fun k x hx hk=>by
    have hxb:=hb x (List.mem_of_getElem? hx)
    obtain ⟨y,hy,_⟩:=Zh6 (l:=Zd5 n (br.take k)) hxb.1 (by rw [ZkU];omega)
    simp only [XT,show (k:Int)<(br.length:Int) from by omega,if_true,Zn,hx,hy,Bq]
    rw [Zsg hxb.1 (by omega),YP hx,Xo (by omega)])
   (by simp only [XT,Int.lt_irrefl,if_false,List.take_length])
  have e0:Zd5 n (br.take 0)=List.replicate n true:=by
   apply List.ext_getElem?
   intro j
   simp only [Zd5,List.take_zero,List.not_mem_nil,decide_false,Bool.not_false,List.getElem?_map,List.getElem?_replicate]
   by_cases h:j<n
   ·simp [h]
   ·simp [h]
  rw [←e0]
  exact this
 refine ZY n (fun k w=>w.1=(k:Int)∧w.2.1.length=n∧∀ j,j<k→w.2.1[j]?=some true) _ ⟨rfl,by simp,fun j hj=>by omega⟩ ?_ ?_
 ·rintro k ⟨i,l,⟨⟩⟩ hk ⟨hi,hl,hS⟩
  simp only at hi hl hS
  subst hi
  have hx:l[k]?=some l[k]:=List.getElem?_eq_getElem (by omega)
  left
  simp only [Jh,hn,hlen,show (k:Int)<(n:Int) from by omega,if_true,Zn,hx,Bq]
  refine ⟨_,rfl,by simp only;rw [Xo (by omega)],by simp [hl],fun j hj=>?_⟩
  simp only [Int.toNat_natCast]
  rw [List.getElem?_set]
  split
  ·rw [if_pos (by omega)]
  ·exact hS j (by omega)
 ·rintro ⟨i,l,⟨⟩⟩ ⟨hi,hl,hS⟩
  simp only at hi hl hS
  subst hi
  have e:l=List.replicate n true:=by
   apply List.ext_getElem?
   intro j
   rw [List.getElem?_replicate]
   by_cases h:j<n
   ·rw [hS j h,if_pos h]
   ·rw [List.getElem?_eq_none (by omega),if_neg h]
  simp only [Jh,hn,hlen,Int.lt_irrefl,if_false]
  rw [e]
  exact hrest
def Zoq (n:Int) (l:List Int):Prop:=Zf0 l 0 (n-1)∧Inc l
theorem ZvX {l:List Int}:Inc l↔Zeq l (fun k x=>∀ y,0<k→l[k-1]?=some y→y<x):=by
 constructor
 ·intro h k x hx y hk hy
  exact h (k-1) y x hy (by rw [show k-1+1=k by omega];exact hx)
 ·intro h k x y hx hy
  exact h (k+1) y hy x (by omega) hx
theorem Zk8 (l:List Int) (n:Int) (hl:l.length≤1048576) (hn:0≤n∧n≤1048576):Zdv l n=some (tr (Zoq n l)):=by
 have e1:Wq (n-1)=n-1:=YZ (by omega) (by omega)
 unfold Zdv
 rw [QX (l:=l) (show List.length _≤_ by omega) (fun k x=>(0≤x∧x≤n-1)∧∀ y,0<k→l[k-1]?=some y→y<x) (bad:=false) (good:=true)
  (fun k x hx hk _=>by
   simp only [Za4,show (k:Int)<(l.length:Int) from by omega,if_true,Zn,hx,Bq,Ji,e1]
   by_cases hb:0≤x∧x≤n-1
   ·rw [if_pos (Yc hb)]
    by_cases h0:(0:Int)<(k:Int)
    ·obtain ⟨y,hy⟩:∃ y,l[k-1]?=some y:=⟨_,List.getElem?_eq_getElem (by omega)⟩
     rw [if_pos h0,Ziu (by omega) (by omega),Zn,hy,Bq]
     constructor
     ·intro hh
      rw [if_neg]
      have:=hh.2 y (by omega) rfl
      omega
     ·intro hh
      rw [if_pos]
      apply Classical.byContradiction
      intro hlt
      refine hh ⟨hb,fun y' _ hy'=>?_⟩
      injection hy' with hy'
      have:¬x≤y:=hlt
      omega
    ·rw [if_neg h0]
     exact ⟨fun _=>rfl,fun hh=>absurd ⟨hb,fun y hk0=>by omega⟩ hh⟩
   ·rw [if_neg (fun q=>hb ((Xx _).1 q))]
    exact ⟨fun hh=>absurd hh.1 hb,fun _=>rfl⟩)
  (fun _=>by simp only [Za4,Int.lt_irrefl,if_false]),ZhM]
 congr 1
 refine QI ?_
 unfold Zoq
 rw [ZvX]
 constructor
 ·intro q
  exact ⟨Zbf.1 (fun k x hx=>(q k x hx).1),fun k x hx=>(q k x hx).2⟩
 ·rintro ⟨q1,q2⟩ k x hx
  exact ⟨q1 x (List.mem_of_getElem? hx),q2 k x hx⟩
theorem ZqE (l:List Int) (n:Int) (hl:l.length≤1048576):((Y4 l 0 n).bind fun b=>if b=true then (QN l).bind fun c=>some c else some false)=some (tr (Zf0 l 0 n∧Inc l)) :=
 YL (ZeX _ _ _ hl) (fun _=>Zb4 (Zd4 _ (show List.length _≤_ by omega)))
theorem Zf3 {b:Zd} (h:Qm b) {l:Zq} (hl:l∈Zx b):(0≤Zq.From l∧Zq.From l<2*((places (Zd.Design b)).length:Int))∧(0≤Zq.To l∧Zq.To l<2*((places (Zd.Design b)).length:Int)):=by
 have hf:=h.ok.1.few
 unfold Zx at hl
 rcases List.mem_append.1 hl with hl | hl
 ·obtain ⟨i,x,hi,hx⟩:=Qw.1 hl
  rw [Nat.zero_add] at hx
  obtain ⟨hc,⟨c,hc1,hc2⟩,_⟩:=h.ok.1.2.2.1 x (List.mem_of_getElem? hi)
  have hC:=h.ok.1.1.2.1 c (List.mem_of_getElem? hc1)
  unfold Zlx at hx
  rw [hc1] at hx
  obtain ⟨k,a,ha,hla⟩:=Qw.1 hx
  have hao:=(hC.2.2.1.2 k a ha).1
  have h1:=hao.1
  have h2:=hao.2.1
  obtain ⟨B,hB⟩:=ZhJ hi
  have hlen:fst (Zd.Design b) i+(Zg.Xf x).length≤(places (Zd.Design b)).length:=by
   rw [hB,List.length_append,List.length_append,ZaD];unfold fst;omega
  unfold Znl at hla
  obtain ⟨p,hp,rfl⟩:=List.mem_map.1 hla
  have htr:(0≤p.1∧p.1≤1)∧(0≤p.2.1∧p.2.1≤1):=by
   unfold trs at hp
   repeat' split at hp
   all_goals (simp only [List.mem_cons,List.not_mem_nil,or_false] at hp)
   all_goals first | (rcases hp with rfl | rfl | rfl | rfl<;>simp) | (rcases hp with rfl | rfl<;>simp) | exact hp.elim
  simp only [Qt,Zq.From,Zq.To]
  omega
 ·obtain ⟨v,w,hw,hx⟩:=Qw.1 hl
  rw [Nat.zero_add] at hx
  have hv:v<(Zc.Xf (Zd.Design b)).length:=by
   have:=(List.getElem?_eq_some_iff.1 hw).1
   have:=h.ok.2.1
   omega
  have hd:=Zrb h hv
  obtain ⟨j,s,hs,hls⟩:=Qw.1 hx
  have hsb:=ZhH (List.mem_of_getElem? hs)
  simp only [List.mem_cons,List.not_mem_nil,or_false] at hls
  rcases hls with rfl | rfl
  ·simp only [Qt,Zq.From,Zq.To];omega
  ·simp only [Qt,Zq.From,Zq.To];omega
theorem Qv {b:Zd} (h:Qm b):(Zx b).length≤6000:=by
 have h1:=Zgh h
 have h2:=ZiM h (Zd.YG b)
 have h3:=h.ok.2.1
 have h4:=h.ok.1.2.1.2.1
 unfold Zx ZrG
 rw [List.length_append]
 omega
/-
  Plain laws: valid sources.
-/
def Zda (n:Int) (l:List Zj) (k:Nat) (x:Zj):Prop :=
 (0≤Zj.Node x∧Zj.Node x≤n-1)∧(∀ y,0<k→l[k-1]?=some y→Zj.Node y<Zj.Node x)∧Zd1 (Zj.ZB x)∧ZeV (Zj.X7 x)
theorem Zkd {b:Zd} (h:Qm b) (l:List Zj) (hl:l.length≤1048576):ZcJ b l=some (tr (Zeq l (Zda (2*((places (Zd.Design b)).length:Int)) l))):=by
 have hf:=h.ok.1.few
 have hpl:=X5 hf
 unfold ZcJ QH
 rw [XH _ hf,Bq,Bq,YZ (n:=2*((places (Zd.Design b)).length:Int)) (by omega) (by omega)]
 rw [QX (l:=l) (show Len l by unfold Len;omega) (Zda (2*((places (Zd.Design b)).length:Int)) l) (bad:=false) (good:=true)
  (step:=fun v=>VD l (2*((places (Zd.Design b)).length:Int)) v.1)
  (fun k x hx hk _=>by
   simp only [VD,show (k:Int)<(l.length:Int) from by omega,if_true,Zn,hx,Bq,Ji,ZiH,ZgQ,YZ (show (-9223372036854775808:Int)≤2*((places (Zd.Design b)).length:Int)-1 by omega) (by omega)]
   unfold Zda
   have fin:∀ (Q:Prop),(Q↔Zd1 (Zj.ZB x)∧ZeV (Zj.X7 x))→((Q→(if tr (Zd1 (Zj.ZB x))=true then if tr (ZeV (Zj.X7 x))=true then some (.inl (Wq ((k:Int)+1),())) else some (.inr false) else some (.inr false):Option ((Int×Unit) ⊕ Bool))=some (.inl (Wq ((k:Int)+1),())))∧
     (¬Q→(if tr (Zd1 (Zj.ZB x))=true then if tr (ZeV (Zj.X7 x))=true then some (.inl (Wq ((k:Int)+1),())) else some (.inr false) else some (.inr false):Option ((Int×Unit) ⊕ Bool))=some (.inr false))):=by
    intro Q hQ
    constructor
    ·intro q
     rw [if_pos (Yc (hQ.1 q).1),if_pos (Yc (hQ.1 q).2)]
    ·intro q
     by_cases s1:Zd1 (Zj.ZB x)
     ·rw [if_pos (Yc s1),if_neg (fun s2=>q (hQ.2 ⟨s1,(Xx _).1 s2⟩))]
     ·rw [if_neg (fun s2=>s1 ((Xx _).1 s2))]
   by_cases q1:0≤Zj.Node x∧Zj.Node x≤2*((places (Zd.Design b)).length:Int)-1
   ·rw [if_pos (Yc q1)]
    by_cases hk0:k=0
    ·subst hk0
     rw [if_neg (show ¬(0:Int)<((0:Nat):Int) by omega)]
     refine fin _ ⟨fun q=>q.2.2,fun q=>⟨q1,fun y h=>by omega,q⟩⟩
    ·have hy:l[k-1]?=some l[k-1]:=List.getElem?_eq_getElem (by omega)
     have hy2:atI l ((k:Int)-1)=some l[k-1]:=Qj (by omega) (by rw [←hy];congr 1;omega)
     generalize l[k-1]=y at hy hy2
     rw [if_pos (by omega),YZ (n:=(k:Int)-1) (by omega) (by omega),hy2,Bq]
     by_cases q2:Zj.Node x≤Zj.Node y
     ·rw [if_pos q2]
      exact ⟨fun q=>by have:=q.2.1 y (by omega) hy;omega,fun _=>rfl⟩
     ·rw [if_neg q2]
      refine fin _ ⟨fun q=>q.2.2,fun q=>⟨q1,fun z _ hz=>?_,q⟩⟩
      rw [hy] at hz;injection hz with hz;subst hz;omega
   ·rw [if_neg (fun q=>q1 ((Xx _).1 q))]
    exact ⟨fun q=>absurd q.1 q1,fun _=>rfl⟩)
  (fun _=>by simp only [VD,Int.lt_irrefl,if_false]),ZhM]
theorem ZjB {b:Zd} (h:Qm b) (v:ZE) (hv:ZE.places v=places (Zd.Design b)) (l:List Zj) (hl:l.length≤1048576):QB v l=some (tr (Zeq l (Zda (2*((places (Zd.Design b)).length:Int)) l))):=by
 have hf:=h.ok.1.few
 have hpl:=X5 hf
 have hnode:∀ n,Zbk v n=some (tr (0≤n∧n≤2*((places (Zd.Design b)).length:Int)-1)):=by
  intro n
  unfold Zbk YM
  rw [show Qb (ZE.places v)=some ((ZE.places v).length:Int) from rfl,Bq,Bq,hv,YZ (n:=2*((places (Zd.Design b)).length:Int)) (by omega) (by omega),YZ (by omega) (by omega)]
  exact Zb4 (V7 _ _ _)
 unfold QB
 rw [QX (l:=l) (show Len l by unfold Len;omega) (Zda (2*((places (Zd.Design b)).length:Int)) l) (bad:=false) (good:=true)
  (step:=fun u=>Qa v l u.1)
  (fun k x hx hk _=>by
   simp only [Qa,show (k:Int)<(l.length:Int) from by omega,if_true,Zn,hx,Bq,hnode,Zfu,ZgH]
   unfold Zda
   by_cases q1:0≤Zj.Node x∧Zj.Node x≤2*((places (Zd.Design b)).length:Int)-1
   ·rw [if_pos (Yc q1)]
    by_cases q3:Zd1 (Zj.ZB x)
    ·rw [if_pos (Yc q3)]
     by_cases q4:ZeV (Zj.X7 x)
     ·rw [if_pos (Yc q4)]
      by_cases hk0:k=0
      ·subst hk0
       rw [if_neg (show ¬(0:Int)<((0:Nat):Int) by omega)]
       exact ⟨fun _=>rfl,fun q=>absurd ⟨q1,fun y h=>by omega,q3,q4⟩ q⟩
      ·have hy:l[k-1]?=some l[k-1]:=List.getElem?_eq_getElem (by omega)
       have hy2:atI l ((k:Int)-1)=some l[k-1]:=Qj (by omega) (by rw [←hy];congr 1;omega)
       generalize l[k-1]=y at hy hy2
       rw [if_pos (by omega),YZ (n:=(k:Int)-1) (by omega) (by omega),hy2,Bq]
       by_cases q2:Zj.Node x≤Zj.Node y
       ·rw [if_pos q2]
        exact ⟨fun q=>by have:=q.2.1 y (by omega) hy;omega,fun _=>rfl⟩
       ·rw [if_neg q2]
        refine ⟨fun _=>rfl,fun q=>absurd ⟨q1,fun z _ hz=>?_,q3,q4⟩ q⟩
        rw [hy] at hz;injection hz with hz;subst hz;omega
     ·rw [if_neg (fun q=>q4 ((Xx _).1 q))]
      exact ⟨fun q=>absurd q.2.2.2 q4,fun _=>rfl⟩
    ·rw [if_neg (fun q=>q3 ((Xx _).1 q))]
     exact ⟨fun q=>absurd q.2.2.1 q3,fun _=>rfl⟩
   ·rw [if_neg (fun q=>q1 ((Xx _).1 q))]
    exact ⟨fun q=>absurd q.1 q1,fun _=>rfl⟩)
  (fun _=>by simp only [Qa,Int.lt_irrefl,if_false]),ZhM]
/-
  Plain laws: valid timings.
-/
def Zero (s:Zu):Prop:=Zu.Early s=0∧Zu.Late s=0
def Zr0 (t:Zk) (k:Nat) (r:Bool):Prop :=
 ∃ a s,(Zk.ZB t)[k]?=some a∧(Zk.X7 t)[k]?=some s∧Zd1 a∧ZeV s∧(r=false→Zero a∧Zero s)
def Zqn (n:Int) (t:Zk):Prop :=
 ((Zk.Reached t).length:Int)=n∧((Zk.ZB t).length:Int)=n∧((Zk.X7 t).length:Int)=n∧Zeq (Zk.Reached t) (Zr0 t)
theorem ZrV {ρ:Type} {t:Zk} {k:Nat} {x:Bool} {a s:Zu} {nx bd:ρ} (ha:(Zk.ZB t)[k]?=some a) (hs:(Zk.X7 t)[k]?=some s) :
  (Zr0 t k x→((if tr (Zd1 a)=true then (if tr (ZeV s)=true then (if x=true then some nx else if (Decidable.decide (Zu.Early a=(0:Int))&&Decidable.decide (Zu.Late a=(0:Int)))=true then (if (Decidable.decide (Zu.Early s=(0:Int))&&Decidable.decide (Zu.Late s=(0:Int)))=true then some nx else some bd) else some bd) else some bd) else some bd):Option ρ)=some nx)∧
  (¬Zr0 t k x→((if tr (Zd1 a)=true then (if tr (ZeV s)=true then (if x=true then some nx else if (Decidable.decide (Zu.Early a=(0:Int))&&Decidable.decide (Zu.Late a=(0:Int)))=true then (if (Decidable.decide (Zu.Early s=(0:Int))&&Decidable.decide (Zu.Late s=(0:Int)))=true then some nx else some bd) else some bd) else some bd) else some bd):Option ρ)=some bd):=by
 have hT:Zr0 t k x↔Zd1 a∧ZeV s∧(x=false→Zero a∧Zero s):=by
  constructor
  ·rintro ⟨a',s',h1,h2,h3⟩
   rw [ha] at h1;rw [hs] at h2
   injection h1 with h1;injection h2 with h2
   subst h1;subst h2;exact h3
  ·exact fun h=>⟨a,s,ha,hs,h⟩
 rw [hT]
 have hz:∀ u:Zu,((Decidable.decide (Zu.Early u=(0:Int))&&Decidable.decide (Zu.Late u=(0:Int)))=true)↔Zero u:=fun u=>by
  unfold Zero;rw [Bool.and_eq_true,decide_eq_true_eq,decide_eq_true_eq]
 by_cases c1:Zd1 a
 ·rw [if_pos (Yc c1)]
  by_cases c2:ZeV s
  ·rw [if_pos (Yc c2)]
   cases x
   ·rw [if_neg (by decide)]
    by_cases c3:Zero a
    ·rw [if_pos ((hz a).2 c3)]
     by_cases c4:Zero s
     ·rw [if_pos ((hz s).2 c4)]
      exact ⟨fun _=>rfl,fun q=>absurd ⟨c1,c2,fun _=>⟨c3,c4⟩⟩ q⟩
     ·rw [if_neg (fun q=>c4 ((hz s).1 q))]
      exact ⟨fun q=>absurd (q.2.2 rfl).2 c4,fun _=>rfl⟩
    ·rw [if_neg (fun q=>c3 ((hz a).1 q))]
     exact ⟨fun q=>absurd (q.2.2 rfl).1 c3,fun _=>rfl⟩
   ·rw [if_pos rfl]
    exact ⟨fun _=>rfl,fun q=>absurd ⟨c1,c2,fun h=>by cases h⟩ q⟩
  ·rw [if_neg (fun q=>c2 ((Xx _).1 q))]
   exact ⟨fun q=>absurd q.2.1 c2,fun _=>rfl⟩
 ·rw [if_neg (fun q=>c1 ((Xx _).1 q))]
  exact ⟨fun q=>absurd q.1 c1,fun _=>rfl⟩
theorem Zlw {b:Zd} (h:Qm b) (v:ZE) (hv:ZE.places v=places (Zd.Design b)) (t:Zk):JV v t=some (tr (Zqn (2*((places (Zd.Design b)).length:Int)) t)):=by
 have hpl:=X5 h.ok.1.few
 unfold JV YM
 rw [show Qb (ZE.places v)=some ((ZE.places v).length:Int) from rfl,Bq,Bq,hv,YZ (n:=2*((places (Zd.Design b)).length:Int)) (by omega) (by omega),
  show ZdS (Zk.Reached t)=some ((Zk.Reached t).length:Int) from rfl,show Qn (Zk.ZB t)=some ((Zk.ZB t).length:Int) from rfl,show Qn (Zk.X7 t)=some ((Zk.X7 t).length:Int) from rfl]
 simp only [Bq]
 unfold Zqn
 refine YK fun q1=>YK fun q2=>YK fun q3=>?_
 rw [QX (l:=Zk.Reached t) (show Len (Zk.Reached t) by unfold Len;omega) (Zr0 t) (bad:=false) (good:=true) (step:=fun v=>Qr t v.1)
  (fun k x hx hk _=>by
   have ha:(Zk.ZB t)[k]?=some ((Zk.ZB t)[k]'(by omega)):=List.getElem?_eq_getElem _
   have hs:(Zk.X7 t)[k]?=some ((Zk.X7 t)[k]'(by omega)):=List.getElem?_eq_getElem _
   generalize (Zk.ZB t)[k]'(by omega)=a at ha
   generalize (Zk.X7 t)[k]'(by omega)=s at hs
   simp only [Qr,show (k:Int)<((Zk.Reached t).length:Int) from by omega,if_true,Zn,hx,ha,hs,Bq,Zfu,ZgH]
   exact ZrV ha hs)
  (fun _=>by simp only [Qr,Int.lt_irrefl,if_false]),ZhM]
theorem Zk9 {n:Int} (h0:0≤n) (h1:n≤1048576) (t:Zk):Zdw n t=some (tr (Zqn n t)):=by
 unfold Zdw Zqn
 refine YK fun q1=>YK fun q2=>YK fun q3=>?_
 rw [QX (l:=Zk.Reached t) (show Len (Zk.Reached t) by unfold Len;omega) (Zr0 t) (bad:=false) (good:=true) (step:=fun v=>VP t v.1)
  (fun k x hx hk _=>by
   have ha:(Zk.ZB t)[k]?=some ((Zk.ZB t)[k]'(by omega)):=List.getElem?_eq_getElem _
   have hs:(Zk.X7 t)[k]?=some ((Zk.X7 t)[k]'(by omega)):=List.getElem?_eq_getElem _
   generalize (Zk.ZB t)[k]'(by omega)=a at ha
   generalize (Zk.X7 t)[k]'(by omega)=s at hs
   simp only [VP,show (k:Int)<((Zk.Reached t).length:Int) from by omega,if_true,Zn,hx,ha,hs,Bq,ZiH,ZgQ]
   exact ZrV ha hs)
  (fun _=>by simp only [VP,Int.lt_irrefl,if_false]),ZhM]
theorem ZlX {b:Zd} (h:Few (Zd.Design b)):QH b=some (2*((places (Zd.Design b)).length:Int)):=by
 have hpl:=X5 h
 unfold QH
 rw [XH _ h,Bq,YZ (by omega) (by omega)]
/-
  Plain laws: the loads of a net, in program and reference.
-/
theorem Zsj {b:Zd} (h:Qm b) {v:Nat} {w:Zp} (hw:(Zd.YG b)[v]?=some w):ZaK b (v:Int)=Yh b (v:Int):=by
 have hf:=h.ok.1.few
 unfold ZaK Yh
 rw [Zn,hw,Bq,Bq,show ZhO (Zp.Cap w)=Xv (Zp.Cap w) from rfl,XH _ hf,XB _ hf,ZdW _ _ hf,ZaO _ _ hf]
 refine congrArg (Option.bind _) ?_
 funext l
 rw [Bq,Bq,Bq,Bq]
 refine congrArg (fun f=>Zm f _) ?_
 funext u
 obtain ⟨i,l,⟨⟩⟩:=u
 simp only [ZeN,YH]
 split
 ·cases atI (sinks (Zd.Design b) (v:Int)) i with
  | none =>
   cases atI (Zp.ZdO w) i with
   | none=>rfl
   | some z =>
    simp only [Bq,Option.bind_none]
    cases atI l z<;>rfl
  | some y =>
   cases atI (Zp.ZdO w) i with
   | none=>rfl
   | some z =>
    simp only [Bq]
    cases atI l z with
    | none=>rfl
    | some q=>rfl
 ·rfl
/-
  Plain laws: the Zg7 of a net's nodes and sinks, in program and reference.
-/
def dlF (w:Zp) (ld:List Int):Nat→List Int
 | 0=>[0]
 | m+1=>dlF w ld m++[((dlF w ld m)[(((Zp.Parent w)[m+1]?).getD 0).toNat]?).getD 0+(((Zp.Res w)[m+1]?).getD 0)*((ld[m+1]?).getD 0)]
theorem ZiO (w:Zp) (ld:List Int):∀ m,(dlF w ld m).length=m+1
 | 0=>rfl
 | m+1=>by show (dlF w ld m++[_]).length=_;rw [List.length_append,ZiO w ld m];rfl
theorem ZqB {l:List Int} {lo hi:Int} (h:∀ x∈l,lo≤x∧x≤hi) (h1:lo≤0) (h2:0≤hi) (i:Nat):lo≤(l[i]?).getD 0∧(l[i]?).getD 0≤hi:=by
 cases e:l[i]? with
 | none=>exact ⟨h1,h2⟩
 | some x=>exact h x (List.mem_of_getElem? e)
theorem Ztb {w:Zp} {ld:List Int} (hr:∀ x∈Zp.Res w,0≤x∧x≤1000) (hl:∀ x∈ld,0≤x∧x≤43000):∀ m,∀ x∈dlF w ld m,0≤x∧x≤(m:Int)*43000000
 | 0,x,hx=>by
  have:x=0:=by simpa [dlF] using hx
  subst this
  omega
 | m+1,x,hx=>by
  have hm:=Ztb hr hl m
  rcases List.mem_append.1 (show x∈dlF w ld m++[_] from hx) with hx | hx
  ·have:=hm x hx;omega
  ·rw [List.mem_singleton.1 hx]
   have a:=ZqB hm (by omega) (by omega) (((Zp.Parent w)[m+1]?).getD 0).toNat
   have b:=ZqB hr (by omega) (by omega) (m+1)
   have c:=ZqB hl (by omega) (by omega) (m+1)
   have d:=ZgM b.1 b.2 c.1 c.2
   omega
structure Zqm (b:Zd) (k:Nat) (w:Zp) (ld:List Int):Prop where
 wire:(Zd.YG b)[k]?=some w
 n1:1≤(Zp.Parent w).length
 n8:(Zp.Parent w).length≤8
 nr:(Zp.Res w).length=(Zp.Parent w).length
 nl:ld.length=(Zp.Parent w).length
 par:∀ (m:Nat),m+1<(Zp.Parent w).length→∃ p,(Zp.Parent w)[m+1]?=some p∧0≤p∧p≤(m:Int)
 res:∀ x∈Zp.Res w,0≤x∧x≤1000
 lds:∀ x∈ld,0≤x∧x≤43000
 snk:∀ x∈Zp.ZdO w,0≤x∧x≤((Zp.Parent w).length:Int)-1
 few:(Zp.ZdO w).length≤1048576
 prog:Yh b (k:Int)=some ld
 ref:ZaK b (k:Int)=some ld
theorem ZAs {b:Zd} (h:Qm b) {k:Nat} {w:Zp} (hw:(Zd.YG b)[k]?=some w):∃ ld,Zqm b k w ld:=by
 have hW:=h.ok.2.2 k w hw
 obtain ⟨⟨l1,l8⟩,lr,lc,ls,ht,ar,ac,asn⟩:=hW
 obtain ⟨nl,hnl,hnl2,hbd⟩:=ZpO h hw
 have hsm:=ZA (Zp3 (ZgO (Zk4 h.sm).2.2 hw)).2.2.2
 refine ⟨nl,hw,l1,l8,lr,hnl2,fun m hm=>?_,ar,hbd,asn,by omega,hnl,by rw [Zsj h hw,hnl]⟩
 have hp:(Zp.Parent w)[m+1]?=some ((Zp.Parent w)[m+1]'hm):=List.getElem?_eq_getElem _
 have:=(ht (m+1) _ hp).2 (by omega)
 exact ⟨_,hp,this.1,by omega⟩
def ndl (w:Zp) (ld:List Int):List Int:=dlF w ld ((Zp.Parent w).length-1)
theorem Zqm.len {b:Zd} {k:Nat} {w:Zp} {ld:List Int} (h:Zqm b k w ld):(ndl w ld).length=(Zp.Parent w).length:=by
 have:=h.n1
 unfold ndl
 rw [ZiO];omega
theorem Zqm.bd {b:Zd} {k:Nat} {w:Zp} {ld:List Int} (h:Zqm b k w ld):∀ x∈ndl w ld,0≤x∧x≤301000000:=fun x hx=>by
 have:=Ztb h.res h.lds _ x hx
 have:=h.n1
 have:=h.n8
 omega
theorem Zqm.step {b:Zd} {k:Nat} {w:Zp} {ld:List Int} (h:Zqm b k w ld) {m:Nat} (hm:m+1<(Zp.Parent w).length) :
  ∃ p r l q,(Zp.Parent w)[m+1]?=some p∧(Zp.Res w)[m+1]?=some r∧ld[m+1]?=some l∧0≤p∧p≤(m:Int)∧(dlF w ld m)[p.toNat]?=some q∧Wq (q+Wq (r*l))=q+r*l∧dlF w ld (m+1)=dlF w ld m++[q+r*l]:=by
 obtain ⟨p,hp,p0,p1⟩:=h.par m hm
 have hr:(Zp.Res w)[m+1]?=some ((Zp.Res w)[m+1]'(by have:=h.nr;omega)):=List.getElem?_eq_getElem _
 have hl:ld[m+1]?=some (ld[m+1]'(by have:=h.nl;omega)):=List.getElem?_eq_getElem _
 have hq:(dlF w ld m)[p.toNat]?=some ((dlF w ld m)[p.toNat]'(by rw [ZiO];omega)):=List.getElem?_eq_getElem _
 have b1:=h.res _ (List.mem_of_getElem? hr)
 have b2:=h.lds _ (List.mem_of_getElem? hl)
 have b3:=Ztb h.res h.lds m _ (List.mem_of_getElem? hq)
 generalize (Zp.Res w)[m+1]'(by have:=h.nr;omega)=r at *
 generalize ld[m+1]'(by have:=h.nl;omega)=l at *
 generalize (dlF w ld m)[p.toNat]'(by rw [ZiO];omega)=q at *
 have b4:=ZgM b1.1 b1.2 b2.1 b2.2
 have:=h.n8
 refine ⟨p,r,l,q,hp,hr,hl,p0,p1,hq,by rw [YZ (n:=r*l) (by omega) (by omega),YZ (by omega) (by omega)],?_⟩
 show dlF w ld m++[_]=_
 rw [hp,hr,hl]
 simp only [Option.getD_some]
 rw [hq]
 rfl
theorem Zm7 {b:Zd} {k:Nat} {w:Zp} {ld:List Int} (h:Zqm b k w ld):Zbb b (k:Int)=some (ndl w ld):=by
 have hn:=h.nl
 have h1:=h.n1
 have h8:=h.n8
 unfold Zbb
 rw [Zn,h.wire,Bq,h.ref,Bq]
 refine ZY ((Zp.Parent w).length-1) (fun m v=>v=(dlF w ld m,((m+1:Nat):Int),())) _ rfl ?_ ?_
 ·rintro m _ hm rfl
  obtain ⟨p,r,l,q,e1,e2,e3,p0,p1,e4,e5,e6⟩:=h.step (m:=m) (by omega)
  have e4':atI (dlF w ld m) p=some q:=Qj p0 e4
  simp only [Za3,show ((m+1:Nat):Int)<(ld.length:Int) from by omega,if_true,Zn,e1,e2,e3,e4',Bq,e5]
  rw [Zh (by rw [ZiO];simp only [List.length_cons,List.length_nil];omega),Xo (by omega)]
  exact .inl ⟨_,rfl,by rw [e6]⟩
 ·rintro _ rfl
  simp only [Za3,show ¬(((Zp.Parent w).length-1+1:Nat):Int)<(ld.length:Int) from by omega,if_false]
  rfl
theorem ZqD {b:Zd} {k:Nat} {w:Zp} {ld:List Int} (h:Zqm b k w ld):Xz b (k:Int)=some (ndl w ld):=by
 have hn:=h.nl
 have h1:=h.n1
 have h8:=h.n8
 unfold Xz
 rw [Zn,h.wire,Bq,h.prog,Bq,Zh (by omega),Zh (by omega),Zh (by omega),Zh (by omega)]
 refine ZY ((Zp.Parent w).length-1) (fun m v=>v=(((m+1:Nat):Int),dlF w ld m++List.replicate ((Zp.Parent w).length-1-m) (0:Int),())) _ ?_ ?_ ?_
 ·rw [Int.toNat_natCast,hn]
  simp only [Prod.mk.injEq,and_true]
  refine ⟨rfl,?_⟩
  show List.replicate (Zp.Parent w).length (0:Int)=[0]++List.replicate ((Zp.Parent w).length-1-0) 0
  rw [show (Zp.Parent w).length=((Zp.Parent w).length-1)+1 by omega,List.replicate_succ]
  simp
 ·rintro m _ hm rfl
  obtain ⟨p,r,l,q,e1,e2,e3,p0,p1,e4,e5,e6⟩:=h.step (m:=m) (by omega)
  have hlen:=ZiO w ld m
  have e4':atI (dlF w ld m++List.replicate ((Zp.Parent w).length-1-m) (0:Int)) p=some q:=Qj p0 (by rw [List.getElem?_append_left (by omega)];exact e4)
  have e7:(dlF w ld m++List.replicate ((Zp.Parent w).length-1-m) (0:Int))[m+1]?=some 0:=by
   rw [List.getElem?_append_right (by omega),hlen,List.getElem?_replicate,if_pos (by omega)]
  have hl2:(dlF w ld m++List.replicate ((Zp.Parent w).length-1-m) (0:Int)).length=(Zp.Parent w).length:=by
   rw [List.length_append,List.length_replicate];omega
  simp only [Y1,hl2,show ((m+1:Nat):Int)<((Zp.Parent w).length:Int) from by omega,if_true,Zn,e1,e2,e3,e4',e7,Bq,e5]
  rw [Xo (by omega)]
  refine .inl ⟨_,rfl,?_⟩
  simp only [Prod.mk.injEq,and_true,true_and,Int.toNat_natCast]
  rw [e6,List.set_append_right _ _ (by omega),hlen,show (Zp.Parent w).length-1-m=((Zp.Parent w).length-1-(m+1))+1 by omega,List.replicate_succ,Nat.sub_self,List.set_cons_zero,List.append_assoc]
  rfl
 ·rintro _ rfl
  have hl2:(dlF w ld ((Zp.Parent w).length-1)++List.replicate ((Zp.Parent w).length-1-((Zp.Parent w).length-1)) (0:Int)).length=(Zp.Parent w).length:=by
   rw [List.length_append,List.length_replicate,ZiO];omega
  simp only [Y1,hl2,show ¬(((Zp.Parent w).length-1+1:Nat):Int)<((Zp.Parent w).length:Int) from by omega,if_false]
  rw [Nat.sub_self,List.replicate_zero,List.append_nil]
  rfl
def sdl (w:Zp) (ld:List Int) (y:Int):Int:=(atI (ndl w ld) y).getD 0
theorem Zqm.sink {b:Zd} {k:Nat} {w:Zp} {ld:List Int} (h:Zqm b k w ld) {y:Int} (hy:y∈Zp.ZdO w):atI (ndl w ld) y=some (sdl w ld y)∧0≤sdl w ld y∧sdl w ld y≤301000000:=by
 have hs:=h.snk y hy
 obtain ⟨x,h1,h2⟩:=Zh6 (l:=ndl w ld) hs.1 (by rw [h.len];omega)
 have hb:=h.bd x h2
 have e:sdl w ld y=x:=by unfold sdl;rw [h1];rfl
 rw [e]
 exact ⟨h1,hb⟩
theorem Znr {b:Zd} {k:Nat} {w:Zp} {ld:List Int} (h:Zqm b k w ld):YT b (k:Int)=some ((Zp.ZdO w).map (sdl w ld)):=by
 unfold YT
 rw [ZqD h,Bq,Zn,h.wire,Bq]
 have hf:=h.few
 refine Zrz (l:=Zp.ZdO w) (by unfold Len;omega) (fun o i=>(o,i,())) (g:=sdl w ld) (s0:=[]) (fun m y hy s hs=>?_) ?_
 ·have hm:=(List.getElem?_eq_some_iff.1 hy).1
  have hl:s.length≤1048576:=by rw [hs,List.length_append,List.length_map,List.length_take,List.length_nil];omega
  simp only [YV,show (m:Int)<((Zp.ZdO w).length:Int) from by omega,if_true,Zn,hy,(h.sink (List.mem_of_getElem? hy)).1,Bq]
  rw [Zh (by simp only [List.length_cons,List.length_nil];omega)]
 ·simp only [YV,Int.lt_irrefl,if_false,List.nil_append]
theorem Zo6 {b:Zd} {k:Nat} {w:Zp} {ld:List Int} (h:Zqm b k w ld) {mode:Int} (hm:mode=0∨mode=1):∃ f:Int→Int,(∀ y∈Zp.ZdO w,Yx (sdl w ld y) 1000 mode=some (f y)∧0≤f y∧f y≤301000)∧JX b (k:Int) mode=some ((Zp.ZdO w).map f):=by
 have hf:=h.few
 have key:∀ y∈Zp.ZdO w,Yx (sdl w ld y) 1000 mode=some ((Yx (sdl w ld y) 1000 mode).getD 0)∧0≤(Yx (sdl w ld y) 1000 mode).getD 0∧(Yx (sdl w ld y) 1000 mode).getD 0≤301000:=fun y hy=>by
  have hs:=(h.sink hy).2
  obtain ⟨r,hr,hb⟩:=ZoF (a:=sdl w ld y) (b:=1000) (m:=mode) (by omega) (by omega) (by omega) hm
  have:=hb 301000 (by omega) (by omega)
  rw [hr]
  exact ⟨rfl,this.2.2 hs.1,this.1 (by omega)⟩
 refine ⟨fun y=>(Yx (sdl w ld y) 1000 mode).getD 0,key,?_⟩
 unfold JX
 rw [Zm7 h,Bq]
 refine Zrz (l:=Zp.ZdO w) (by unfold Len;omega) (fun o i=>(o,i,())) (g:=fun y=>(Yx (sdl w ld y) 1000 mode).getD 0) (s0:=[]) (fun m y hy s hs=>?_) ?_
 ·have hm:=(List.getElem?_eq_some_iff.1 hy).1
  have hl:s.length≤1048576:=by rw [hs,List.length_append,List.length_map,List.length_take,List.length_nil];omega
  simp only [V4,Zn,h.wire,show (m:Int)<((Zp.ZdO w).length:Int) from by omega,if_true,hy,(h.sink (List.mem_of_getElem? hy)).1,Bq]
  rw [(key y (List.mem_of_getElem? hy)).1,Bq,Zh (by simp only [List.length_cons,List.length_nil];omega)]
  rfl
 ·simp only [V4,Zn,h.wire,Bq,Int.lt_irrefl,if_false,List.nil_append]
/-
  Plain laws: what stands behind a link.
-/
def Zxd (b:Zd) (x:Zq) (y:Pl):Prop:=Zq.Kind x=1∧∃ (i:Nat) (u:Zg) (c:Zi) (k:Nat) (a:Zw),y.1=(i:Int)∧(Zc.Instances (Zd.Design b))[i]?=some u∧0≤Zg.Cell u∧(Zt.Cells (Zd.Library b))[(Zg.Cell u).toNat]?=some c∧
 (Zi.VI c)[k]?=some a∧Zq.Index x=(k:Int)∧ZaN (Zw.Delay a) true∧ZaN (Zw.X7 a) true
def ZyC (b:Zd) (x:Zq) (v:Nat):Prop:=Zq.Kind x=2∧∃ (w:Zp) (j:Nat) (z:Int),(Zd.YG b)[v]?=some w∧Zq.Index x=(j:Int)∧(Zp.ZdO w)[j]?=some z
structure ZsK (b:Zd) (x:Zq) (y:Pl) (v:Nat):Prop where
 to0:0≤Zq.To x
 to1:Zq.To x≤1000000
 place:(places (Zd.Design b))[(Zq.To x / 2).toNat]?=some y
 net:y.2.2.1=(v:Int)
 few:v<(Zd.YG b).length
 kind:Zxd b x y∨ZyC b x v
theorem ZpK {b:Zd} (h:Qm b) {x:Zq} (hl:x∈Zx b):∃ y v,ZsK b x y v:=by
 have hf:=h.ok.1.few
 have hpl:=X5 hf
 have hbd:=Zf3 h hl
 have hwn:=h.ok.2.1
 unfold Zx at hl
 rcases List.mem_append.1 hl with hl | hl
 ·obtain ⟨i,u,hi,hx⟩:=Qw.1 hl
  rw [Nat.zero_add] at hx
  obtain ⟨hc,⟨c,hc1,hc2⟩,hnets⟩:=h.ok.1.2.2.1 u (List.mem_of_getElem? hi)
  have hC:=h.ok.1.1.2.1 c (List.mem_of_getElem? hc1)
  unfold Zlx at hx
  rw [hc1] at hx
  obtain ⟨k,a,ha,hla⟩:=Qw.1 hx
  rw [Nat.zero_add] at hla
  have hao:=(hC.2.2.1.2 k a ha).1
  have h1:=hao.1
  have h2:=hao.2.1
  obtain ⟨B,hB⟩:=ZhJ hi
  unfold Znl at hla
  obtain ⟨p,hp,rfl⟩:=List.mem_map.1 hla
  have htr:(0≤p.2.1∧p.2.1≤1)∧(Zw.Kind a=1∨Zw.Kind a=2∨Zw.Kind a=3):=by
   unfold trs at hp
   repeat' split at hp
   all_goals (simp only [List.mem_cons,List.not_mem_nil,or_false] at hp)
   all_goals first | (rcases hp with rfl | rfl | rfl | rfl<;>simp<;>omega) | (rcases hp with rfl | rfl<;>simp<;>omega) | exact hp.elim
  obtain ⟨ht,hk⟩:=htr
  have htabs:ZaN (Zw.Delay a) true∧ZaN (Zw.X7 a) true:=by
   rcases hao.2.2 with q | q | q
   ·exact ⟨q.2.2.2.2.1,q.2.2.2.2.2⟩
   ·exact ⟨q.2.2.2.2.1,q.2.2.2.2.2⟩
   ·have:=q.1;omega
  have hn:(Zg.Xf u)[(Zw.To a).toNat]?=some ((Zg.Xf u)[(Zw.To a).toNat]'(by omega)):=List.getElem?_eq_getElem _
  have hnet:=hnets _ (List.mem_of_getElem? hn)
  generalize (Zg.Xf u)[(Zw.To a).toNat]'(by omega)=n at hn hnet
  have hnet0:0≤n∧n≤((Zc.Xf (Zd.Design b)).length:Int)-1:=hnet
  have hfst:(cat VH 0 ((Zc.Instances (Zd.Design b)).take i)).length=fst (Zd.Design b) i:=rfl
  have eto:Zq.To (Qt ((fst (Zd.Design b) i:Nat)+Zw.From a) ((fst (Zd.Design b) i:Nat)+Zw.To a) p.1 p.2.1 1 (k:Int))=2*((fst (Zd.Design b) i:Int)+Zw.To a)+p.2.1:=rfl
  have hpos:((2*((fst (Zd.Design b) i:Int)+Zw.To a)+p.2.1) / 2).toNat=fst (Zd.Design b) i+(Zw.To a).toNat:=by omega
  refine ⟨((i:Int),(((Zw.To a).toNat:Nat):Int),n,decide ((((Zw.To a).toNat:Nat):Int)=Wq (((Zg.Xf u).length:Int)-1)),()),n.toNat,hbd.2.1,by have:=hbd.2.2;omega,?_,by show n=_;omega,by omega,.inl ⟨rfl,i,u,c,k,a,rfl,hi,hc.1,hc1,ha,rfl,htabs.1,htabs.2⟩⟩
  rw [eto,hpos,hB,List.getElem?_append_right (by rw [hfst];omega),hfst,Nat.add_sub_cancel_left,List.getElem?_append_left (by rw [ZaD];omega)]
  unfold VH
  rw [Zow,hn,Nat.zero_add]
  rfl
 ·obtain ⟨v,w,hw,hx⟩:=Qw.1 hl
  rw [Nat.zero_add] at hx
  have hv:=(List.getElem?_eq_some_iff.1 hw).1
  obtain ⟨j,s,hs,hls⟩:=Qw.1 hx
  rw [Nat.zero_add] at hls
  have hsl:((Zp.ZdO w).length:Int)=((sinks (Zd.Design b) (v:Int)).length:Int):=(h.ok.2.2 v w hw).2.2.2.1
  have hjl:=(List.getElem?_eq_some_iff.1 hs).1
  have hz:(Zp.ZdO w)[j]?=some ((Zp.ZdO w)[j]'(by omega)):=List.getElem?_eq_getElem _
  obtain ⟨q,y,hq,hy⟩:=Qw.1 (show s∈cat (ZeT (v:Int)) 0 (places (Zd.Design b)) from List.mem_of_getElem? hs)
  rw [Nat.zero_add] at hy
  have hsq:s=(q:Int)∧y.2.2.1=(v:Int):=by
   unfold ZeT at hy
   split at hy
   ·rename_i e
    split at hy
    ·cases hy
    ·exact ⟨List.mem_singleton.1 hy,e⟩
   ·cases hy
  obtain ⟨rfl,hnet⟩:=hsq
  simp only [List.mem_cons,List.not_mem_nil,or_false] at hls
  rcases hls with rfl | rfl
  ·refine ⟨y,v,hbd.2.1,by have:=hbd.2.2;omega,?_,hnet,hv,.inr ⟨rfl,w,j,_,hw,rfl,hz⟩⟩
   rw [show Zq.To (Qt (ZgU (Zd.Design b) (v:Int)) (q:Int) 0 0 2 (j:Int))=2*(q:Int)+0 from rfl,show ((2*(q:Int)+0) / 2).toNat=q by omega]
   exact hq
  ·refine ⟨y,v,hbd.2.1,by have:=hbd.2.2;omega,?_,hnet,hv,.inr ⟨rfl,w,j,_,hw,rfl,hz⟩⟩
   rw [show Zq.To (Qt (ZgU (Zd.Design b) (v:Int)) (q:Int) 1 1 2 (j:Int))=2*(q:Int)+1 from rfl,show ((2*(q:Int)+1) / 2).toNat=q by omega]
   exact hq
/-
  Plain laws: the slew behind a wire, in program and reference.
-/
theorem Zvs {lo hi:Nat} (h:lo+hi≤8000000000):Wq (Int.tdiv (Wq (Wq ((lo:Int)+(hi:Int))+(1:Int))) (2:Int))=(((lo+hi+1) / 2:Nat):Int):=by
 rw [YZ (n:=(lo:Int)+(hi:Int)) (by omega) (by omega),YZ (n:=(lo:Int)+(hi:Int)+1) (by omega) (by omega),Int.tdiv_eq_ediv_of_nonneg (by omega),YZ (by omega) (by omega)]
 omega
theorem Zvc {m:Nat} (h:m≤3000000000):Wq ((m:Int)*(m:Int))=((m*m:Nat):Int):=by
 have:=Nat.mul_le_mul h h
 rw [←Int.natCast_mul]
 generalize m*m=q at this ⊢
 exact YZ (by omega) (by omega)
theorem ZpC {S:Nat} (hS:S<(3000000000+1)*(3000000000+1)):∃ r,Zui S r∧r≤3000000000∧ZjC (S:Int)=some (r:Int):=by
 unfold ZjC
 refine ZpY (n:=S) (H:=3000000000) (good:=fun r=>(r:Int)) hS (fun lo hi hlt hH=>?_) (fun lo hl=>?_)
 ·show J9 (S:Int) (lo:Int) (hi:Int)=_
  unfold J9
  rw [if_pos (by omega),Zvs (by omega),Zvc (by omega)]
  by_cases c:(lo+hi+1) / 2*((lo+hi+1) / 2)≤S
  ·rw [if_pos c,if_pos (by omega)]
  ·rw [if_neg c,if_neg (by omega),YZ (by omega) (by omega),show (((lo+hi+1) / 2:Nat):Int)-1=(((lo+hi+1) / 2-1:Nat):Int) by omega]
 ·show J9 (S:Int) (lo:Int) (lo:Int)=_
  unfold J9
  rw [if_neg (Int.lt_irrefl _)]
theorem Zp8 {S:Nat} {m:Int} (hS:S<(2000000000+1)*(2000000000+1)):∃ r,Zui S r∧r≤2000000000∧ZdJ (S:Int) m=some (if m=1 then ((if r*r<S then r+1 else r:Nat):Int) else (r:Int)):=by
 unfold ZdJ
 refine ZpY (n:=S) (H:=2000000000) (good:=fun r=>if m=1 then ((if r*r<S then r+1 else r:Nat):Int) else (r:Int)) hS (fun lo hi hlt hH=>?_) (fun lo hl=>?_)
 ·show Vz (S:Int) m (lo:Int) (hi:Int)=_
  unfold Vz
  rw [if_pos (by omega),Zvs (by omega),Zvc (by omega)]
  by_cases c:(lo+hi+1) / 2*((lo+hi+1) / 2)≤S
  ·rw [if_pos c,if_pos (by omega)]
  ·rw [if_neg c,if_neg (by omega),YZ (by omega) (by omega),show (((lo+hi+1) / 2:Nat):Int)-1=(((lo+hi+1) / 2-1:Nat):Int) by omega]
 ·show Vz (S:Int) m (lo:Int) (lo:Int)=_
  unfold Vz
  rw [if_neg (Int.lt_irrefl _),Zvc (by omega)]
  by_cases m1:m=1
  ·rw [if_pos m1,if_pos m1]
   by_cases c:lo*lo<S
   ·rw [if_pos (by omega),if_pos c,YZ (by omega) (by omega)]
    rfl
   ·rw [if_neg (by omega),if_neg c]
  ·rw [if_neg m1,if_neg m1]
theorem ZoE {x n:Nat} {m:Int} (hn:0<n) (hx:x≤4000000000) (hn2:n≤1000) (hm:m=0∨m=1):Yx (x:Int) (n:Int) m=some (if m=1 then ((upQ x n:Nat):Int) else ((x / n:Nat):Int)):=by
 have e1:Int.tmod (x:Int) (n:Int)=((x % n:Nat):Int):=by rw [Int.tmod_eq_emod_of_nonneg (by omega)];omega
 have e2:Int.tdiv (x:Int) (n:Int)=((x / n:Nat):Int):=by rw [Int.tdiv_eq_ediv_of_nonneg (by omega)];omega
 have hq:=Nat.div_le_self x n
 unfold Yx upQ
 rw [Zh (by omega),e1,e2]
 clear e1 e2
 generalize x / n=q at hq ⊢
 rw [if_neg (by omega),YZ (n:=(q:Int)) (by omega) (by omega)]
 by_cases c:x % n=0
 ·rw [if_neg (by omega),if_pos c]
  rcases hm with rfl | rfl<;>rfl
 ·rw [if_pos (by omega),if_neg c]
  rcases hm with rfl | rfl
  ·rfl
  ·rw [if_pos rfl,if_pos rfl,YZ (by omega) (by omega)]
   rfl
def sqs (s d:Int):Nat:=250000*(s.natAbs*s.natAbs)+d.natAbs*d.natAbs
theorem ZxR {s d:Int} (h1:-1000000≤s) (h2:s≤1000000) (h3:0≤d) (h4:d≤301000000):sqs s d≤350000000000000000∧(s.natAbs*s.natAbs:Nat)≤1000000000000∧(d.natAbs*d.natAbs:Nat)≤90601000000000000∧s*s=((s.natAbs*s.natAbs:Nat):Int)∧d*d=((d.natAbs*d.natAbs:Nat):Int):=by
 have a:=Nat.mul_le_mul (show s.natAbs≤1000000 by omega) (show s.natAbs≤1000000 by omega)
 have b:=Nat.mul_le_mul (show d.natAbs≤301000000 by omega) (show d.natAbs≤301000000 by omega)
 refine ⟨?_,by omega,by omega,?_,?_⟩
 ·unfold sqs
  generalize s.natAbs*s.natAbs=x at *
  generalize d.natAbs*d.natAbs=y at *
  omega
 ·rw [Int.natCast_mul,Int.natAbs_mul_self']
 ·rw [Int.natCast_mul,Int.natAbs_mul_self']
theorem Zud {s d m:Int} (h1:-1000000≤s) (h2:s≤1000000) (h3:0≤d) (h4:d≤301000000) (hm:m=0∨m=1) :
  ∃ r,Zeb s d m=some r∧0≤r∧((ZdJ (Wq (Wq (Wq ((1000000:Int)*s)*s)+Wq (Wq ((4:Int)*d)*d))) m).bind fun l07Root0=>(Yx l07Root0 (1000:Int) m).bind fun l01Div0=>some l01Div0)=some r:=by
 obtain ⟨b1,b2,b3,e1,e2⟩:=ZxR h1 h2 h3 h4
 have ei:Wq (Wq (Wq (Wq ((500:Int)*s)*(500:Int))*s)+Wq (d*d))=((sqs s d:Nat):Int):=by
  have f1:(500:Int)*s*500*s=250000*(s*s):=by
   rw [←Int.mul_assoc];congr 1;omega
  rw [YZ (n:=500*s) (by omega) (by omega),YZ (n:=500*s*500) (by omega) (by omega),f1,e1,e2]
  unfold sqs
  generalize s.natAbs*s.natAbs=x at *
  generalize d.natAbs*d.natAbs=y at *
  rw [YZ (n:=250000*(x:Int)) (by omega) (by omega),YZ (n:=(y:Int)) (by omega) (by omega),YZ (by omega) (by omega)]
  omega
 have es:Wq (Wq (Wq ((1000000:Int)*s)*s)+Wq (Wq ((4:Int)*d)*d))=((4*sqs s d:Nat):Int):=by
  rw [YZ (n:=1000000*s) (by omega) (by omega),YZ (n:=4*d) (by omega) (by omega),Int.mul_assoc,Int.mul_assoc,e1,e2]
  unfold sqs
  generalize s.natAbs*s.natAbs=x at *
  generalize d.natAbs*d.natAbs=y at *
  rw [YZ (n:=1000000*(x:Int)) (by omega) (by omega),YZ (n:=4*(y:Int)) (by omega) (by omega),YZ (by omega) (by omega)]
  omega
 generalize sqs s d=S at b1 ei es
 obtain ⟨r,hr,hrl,hre⟩:=ZpC (S:=S) (by omega)
 obtain ⟨R,hR,hRl,hRe⟩:=Zp8 (S:=4*S) (m:=m) (by omega)
 unfold Zeb
 rw [ei,es,hre,hRe,Bq,Bq,Zf7,Zvc (by omega)]
 rw [show (500:Int)=((500:Nat):Int) from rfl,show (1000:Int)=((1000:Nat):Int) from rfl]
 rcases hm with rfl | rfl
 ·refine ⟨((r / 500:Nat):Int),?_,by omega,?_⟩
  ·rw [if_neg (by decide),ZoE (by omega) (by omega) (by omega) (.inl rfl),Bq,if_neg (by decide)]
  ·rw [if_neg (by decide),ZoE (by omega) (by omega) (by omega) (.inl rfl),Bq,if_neg (by decide),Zu9 hr hR]
 ·have hl:=Zwc hr hR
  refine ⟨((upQ (if R*R<4*S then R+1 else R) 1000:Nat):Int),?_,by omega,?_⟩
  ·rw [if_pos rfl,←hl]
   by_cases c:r*r<S
   ·rw [if_pos (by omega),if_pos c,Int.tdiv_eq_ediv_of_nonneg (by omega),YZ (n:=(r:Int) / ((500:Nat):Int)) (by omega) (by omega),YZ (by omega) (by omega)]
    congr 1
   ·rw [if_neg (by omega),if_neg c,ZoE (by omega) (by omega) (by omega) (.inr rfl),Bq,if_pos rfl]
  ·rw [if_pos rfl,ZoE (by omega) (by split<;>omega) (by omega) (.inr rfl),Bq,if_pos rfl]
/-
  Plain laws: Zg7, slews, spans of links, in program and reference.
-/
structure VOk (b:Zd) (v:ZE):Prop where
 places:ZE.places v=places (Zd.Design b)
 block:ZE.Block v=b
 links:ZE.links v=Zx b
 loads:ZE.loads v=(List.range (Zd.YG b).length).map (ldF b)
 Zg7:ZE.Zg7 v=(List.range (Zd.YG b).length).map (edF b)
 extras:ZE.extras v=[]
theorem ZwZ {b:Zd} (h:Qm b):∃ v,ZdA b=some v∧VOk b v:=by
 obtain ⟨v,h1,h2,h3,h4,h5,h6,h7⟩:=ZqL h
 exact ⟨v,h1,h2,h3,h4,h5,h6,h7⟩
theorem ZoX {b:Zd} {x:Zq} {y:Pl} {n:Nat} (hd:ZsK b x y n):atI (places (Zd.Design b)) (Wq (Int.tdiv (Zq.To x) (2:Int)))=some y:=by
 have h0:=hd.to0
 have h1:=hd.to1
 rw [Int.tdiv_eq_ediv_of_nonneg h0,YZ (by omega) (by omega)]
 exact Qj (by omega) hd.place
theorem ZrH {b:Zd} {v:ZE} (hv:VOk b v) {x:Zq} {y:Pl} {n:Nat} (hd:ZsK b x y n):VY v x=some (n:Int):=by
 unfold VY
 rw [hv.places,ZoX hd,Bq,←hd.net]
theorem ZpI {b:Zd} (h:Qm b) {x:Zq} {y:Pl} {n:Nat} (hd:ZsK b x y n):ZeP b x=some (n:Int):=by
 unfold ZeP
 rw [XH _ h.ok.1.few,Bq,ZoX hd,Bq,←hd.net]
theorem Zvx {l:List Zo} (h:ZaN l true) {n:Int} (hn:0≤n):∃ t,atI l (Int.tmod n (2:Int))=some t∧QT t:=by
 have e:0≤Int.tmod n 2∧Int.tmod n 2<2:=by rw [Int.tmod_eq_emod_of_nonneg hn];omega
 obtain ⟨t,h1,h2⟩:=Zh6 (l:=l) e.1 (by rw [h.1];exact e.2)
 exact ⟨t,h1,(h.2 t h2).1⟩
theorem Zu3 {b:Zd} {n:Nat} {w:Zp} {ld:List Int} (h:Zqm b n w ld):atI ld (0:Int)=some (ldF b n):=by
 have h1:=h.n1
 have h2:=h.nl
 have e:ld[0]?=some (ld[0]'(by omega)):=List.getElem?_eq_getElem _
 show atI ld ((0:Nat):Int)=_
 rw [Zn]
 unfold ldF
 rw [h.prog,Bq,e]
 rfl
theorem ZtD {b:Zd} {n:Nat} {w:Zp} {ld:List Int} (h:Zqm b n w ld):edF b n=(Zp.ZdO w).map (sdl w ld):=by
 unfold edF
 rw [Znr h]
 rfl
theorem Zn4 {b:Zd} (h:Qm b) {v:ZE} (hv:VOk b v) {x:Zq} {y:Pl} {n:Nat} (hd:ZsK b x y n) (hc:Zxd b x y) :
  ∃ a t1 t2,Zaa v x=some a∧ZeO b x=some (a,ldF b n)∧atI (Zw.Delay a) (Int.tmod (Zq.To x) (2:Int))=some t1∧QT t1∧atI (Zw.X7 a) (Int.tmod (Zq.To x) (2:Int))=some t2∧QT t2:=by
 obtain ⟨hk,i,u,c,k,a,e1,e2,e3,e4,e5,e6,e7,e8⟩:=hc
 obtain ⟨t1,f1,f2⟩:=Zvx e7 hd.to0
 obtain ⟨t2,f3,f4⟩:=Zvx e8 hd.to0
 have hw:(Zd.YG b)[n]?=some ((Zd.YG b)[n]'hd.few):=List.getElem?_eq_getElem _
 obtain ⟨ld,hN⟩:=ZAs h hw
 have g1:atI (Zc.Instances (Zd.Design b)) (YD.instance y)=some u:=by
  show atI _ y.1=_
  rw [e1,Zn];exact e2
 have g1':atI (Zc.Instances (Zd.Design b)) (ZW.instance y)=some u:=g1
 have g2:atI (Zt.Cells (Zd.Library b)) (Zg.Cell u)=some c:=Qj e3 e4
 have g3:atI (Zi.VI c) (Zq.Index x)=some a:=by rw [e6,Zn];exact e5
 refine ⟨a,t1,t2,?_,?_,f1,f2,f3,f4⟩
 ·unfold Zaa
  rw [hv.places,hv.block,ZoX hd,Bq,g1,Bq,g2,Bq,g3]
  rfl
 ·unfold ZeO
  rw [XH _ h.ok.1.few,Bq,ZoX hd,Bq,g1',Bq,g2,Bq,g3,Bq,show ZW.net y=(n:Int) from hd.net,hN.ref,Bq,Zu3 hN]
  rfl
theorem Zrt {b:Zd} {v:ZE} (hv:VOk b v) {n:Nat} (hn:n<(Zd.YG b).length):atI (ZE.loads v) (n:Int)=some (ldF b n):=by
 rw [Zn,hv.loads,List.getElem?_map,List.getElem?_range hn]
 rfl
theorem Zs7 {b:Zd} {v:ZE} (hv:VOk b v) {n:Nat} (hn:n<(Zd.YG b).length):atI (ZE.Zg7 v) (n:Int)=some (edF b n):=by
 rw [Zn,hv.Zg7,List.getElem?_map,List.getElem?_range hn]
 rfl
theorem Zth {c:Zv} (h:JL c) (kind:Int) (m:Int):∃ F,Vm c kind m=some F∧Zbc c kind m=some F∧0≤F∧F≤5000:=by
 obtain ⟨_,⟨a1,a2,a3⟩,⟨b1,b2,b3⟩⟩:=h
 unfold Vm Zbc
 by_cases k1:kind=1
 ·by_cases m0:m=0
  ·simp only [k1,m0,if_true]
   exact ⟨_,rfl,rfl,by omega,by omega⟩
  ·simp only [k1,m0,if_true,if_false]
   exact ⟨_,rfl,rfl,by omega,by omega⟩
 ·by_cases m0:m=0
  ·simp only [k1,m0,if_true,if_false]
   exact ⟨_,rfl,rfl,by omega,by omega⟩
  ·simp only [k1,m0,if_false]
   exact ⟨_,rfl,rfl,by omega,by omega⟩
theorem ZrR {q F m:Int} (q1:-1000000≤q) (q2:q≤1000000) (F0:0≤F) (F1:F≤5000) (hm:m=0∨m=1):∃ r,ZfI q F m=some r∧Yx (Wq (q*F)) (1000:Int) m=some r∧-5000000≤r∧r≤5000000:=by
 have p:=ZmT q1 q2 F0
 obtain ⟨r,hr,hb⟩:=ZoF (a:=q*F) (b:=1000) (m:=m) (by omega) (by omega) (by omega) hm
 have hb:=hb 5000000 (by omega) (by omega)
 unfold ZfI
 rw [Zf7,YZ (n:=q*F) (by omega) (by omega),hr]
 exact ⟨r,rfl,rfl,hb.2.1 (by omega),hb.1 (by omega)⟩
theorem ZlY {b:Zd} (h:Qm b) {v:ZE} (hv:VOk b v) {c:Zv} (hc:JL c) {k:Nat} {x:Zq} (hx:(Zx b)[k]?=some x) (s:Int) {m:Int} (hm:m=0∨m=1) :
  ∃ r,QV v c (k:Int) s m=some r∧Jp b c x s m=some r∧-5000000≤r∧r≤5000000:=by
 obtain ⟨y,n,hd⟩:=ZpK h (List.mem_of_getElem? hx)
 obtain ⟨F,F1,F2,F3,F4⟩:=Zth hc (Zq.Kind x) m
 have hl:atI (ZE.links v) (k:Int)=some x:=by rw [hv.links,Zn];exact hx
 unfold QV Jp
 rw [hl,Bq,ZrH hv hd,Bq]
 rcases hd.kind with hC | hW
 ·obtain ⟨a,t1,t2,c1,c2,c3,c4,c5,c6⟩:=Zn4 h hv hd hC
  obtain ⟨q,q1,q2,q3,q4⟩:=look_eq c4 s (ldF b n) hm
  obtain ⟨r,r1,r2,r3,r4⟩:=ZrR q3 q4 F3 F4 hm
  refine ⟨r,?_,?_,r3,r4⟩
  ·rw [if_pos hC.1,Zrt hv hd.few,Bq,c1,Bq,c3,Bq,q1,Bq,F1,Bq,r1]
   rfl
  ·rw [if_pos hC.1,c2,Bq]
   show (atI (Zw.Delay a) _).bind _=_
   rw [c3,Bq]
   show (Zao t1 s (ldF b n) m).bind _=_
   rw [q2,Bq,F2,Bq,r2]
   rfl
 ·obtain ⟨hk,w,j,z,e1,e2,e3⟩:=hW
  obtain ⟨ld,hN⟩:=ZAs h e1
  obtain ⟨f,f1,f2⟩:=Zo6 hN hm
  obtain ⟨g1,g2,g3⟩:=f1 z (List.mem_of_getElem? e3)
  obtain ⟨r,r1,r2,r3,r4⟩:=ZrR (q:=f z) (by omega) (by omega) F3 F4 hm
  have hne:¬Zq.Kind x=1:=by omega
  refine ⟨r,?_,?_,r3,r4⟩
  ·rw [if_neg hne,Zs7 hv hd.few,Bq,ZtD hN,e2,Zn,List.getElem?_map,e3,Option.map_some,Bq,Zf7,g1,Bq,F1,Bq,r1]
   rfl
  ·rw [if_neg hne,ZpI h hd,Bq,f2,Bq,e2,Zn,List.getElem?_map,e3,Option.map_some,Bq,F2,Bq,r2]
   rfl
theorem Zo7 {b:Zd} (h:Qm b) {v:ZE} (hv:VOk b v) {k:Nat} {x:Zq} (hx:(Zx b)[k]?=some x) {s:Int} (s1:-1000000≤s) (s2:s≤1000000) {m:Int} (hm:m=0∨m=1) :
  ∃ r,YA v (k:Int) s m=some r∧Zar b x s m=some r∧-1000000≤r∧r≤1000000:=by
 obtain ⟨y,n,hd⟩:=ZpK h (List.mem_of_getElem? hx)
 have hl:atI (ZE.links v) (k:Int)=some x:=by rw [hv.links,Zn];exact hx
 unfold YA Zar
 rw [hl,Bq,ZrH hv hd,Bq]
 rcases hd.kind with hC | hW
 ·obtain ⟨a,t1,t2,c1,c2,c3,c4,c5,c6⟩:=Zn4 h hv hd hC
  obtain ⟨q,q1,q2,q3,q4⟩:=look_eq c6 s (ldF b n) hm
  refine ⟨q,?_,?_,q3,q4⟩
  ·rw [if_pos hC.1,Zrt hv hd.few,Bq,c1,Bq,c5,Bq,q1,Bq,Int.min_eq_left q4]
  ·rw [if_pos hC.1,c2,Bq]
   show (atI (Zw.X7 a) _).bind _=_
   rw [c5,Bq]
   show (Zao t2 s (ldF b n) m).bind _=_
   rw [q2]
   rfl
 ·obtain ⟨hk,w,j,z,e1,e2,e3⟩:=hW
  obtain ⟨ld,hN⟩:=ZAs h e1
  obtain ⟨g1,g2,g3⟩:=hN.sink (List.mem_of_getElem? e3)
  obtain ⟨q,q1,q2,q3⟩:=Zud (s:=s) (d:=sdl w ld z) (m:=m) s1 s2 g2 g3 hm
  have hne:¬Zq.Kind x=1:=by omega
  refine ⟨Min.min q 1000000,?_,?_,by omega,by omega⟩
  ·rw [if_neg hne,Zs7 hv hd.few,Bq,ZtD hN,e2,Zn,List.getElem?_map,e3,Option.map_some,Bq,q1]
   rfl
  ·rw [if_neg hne,ZpI h hd,Bq]
   unfold ZhP
   rw [Zn,e1,Bq,e2,Zn,e3,Bq,Zm7 hN,Bq,g1,Bq,q3,Bq,Int.min_comm]
theorem spans_eq {b:Zd} (h:Qm b) {v:ZE} (hv:VOk b v) {c:Zv} (hc:JL c) {k:Nat} {x:Zq} (hx:(Zx b)[k]?=some x) {s:Zu} (s1:-1000000≤Zu.Early s∧Zu.Early s≤1000000) (s2:-1000000≤Zu.Late s∧Zu.Late s≤1000000) :
  ∃ d o:Zu,VZ v c (k:Int) s=some (d,o)∧ZcK b c x s=some (d,o)∧(-5000000≤Zu.Early d∧Zu.Early d≤5000000)∧(-5000000≤Zu.Late d∧Zu.Late d≤5000000)∧(-1000000≤Zu.Early o∧Zu.Early o≤1000000)∧(-1000000≤Zu.Late o∧Zu.Late o≤1000000):=by
 obtain ⟨d1,a1,b1,c1⟩:=ZlY h hv hc hx (Zu.Early s) (.inl rfl:(0:Int)=0∨(0:Int)=1)
 obtain ⟨d2,a2,b2,c2⟩:=ZlY h hv hc hx (Zu.Late s) (.inl rfl:(0:Int)=0∨(0:Int)=1)
 obtain ⟨d3,a3,b3,c3⟩:=ZlY h hv hc hx (Zu.Early s) (.inr rfl:(1:Int)=0∨(1:Int)=1)
 obtain ⟨d4,a4,b4,c4⟩:=ZlY h hv hc hx (Zu.Late s) (.inr rfl:(1:Int)=0∨(1:Int)=1)
 obtain ⟨o1,e1,f1,g1⟩:=Zo7 h hv hx s1.1 s1.2 (.inl rfl:(0:Int)=0∨(0:Int)=1)
 obtain ⟨o2,e2,f2,g2⟩:=Zo7 h hv hx s2.1 s2.2 (.inl rfl:(0:Int)=0∨(0:Int)=1)
 obtain ⟨o3,e3,f3,g3⟩:=Zo7 h hv hx s1.1 s1.2 (.inr rfl:(1:Int)=0∨(1:Int)=1)
 obtain ⟨o4,e4,f4,g4⟩:=Zo7 h hv hx s2.1 s2.2 (.inr rfl:(1:Int)=0∨(1:Int)=1)
 have hl:atI (ZE.links v) (k:Int)=some x:=by rw [hv.links,Zn];exact hx
 refine ⟨(Min.min d1 d2,Max.max d3 d4,()),(Min.min o1 o2,Max.max o3 o4,()),?_,?_,?_,?_,?_,?_⟩
 ·unfold VZ
  rw [a1,a2,a3,a4,hl,hv.extras]
  simp only [Bq]
  rw [if_neg (by simp),e1,e2,e3,e4]
  rfl
 ·unfold ZcK
  rw [b1,b2,b3,b4,f1,f2,f3,f4]
  rfl
 ·show _≤Min.min d1 d2∧Min.min d1 d2≤_;omega
 ·show _≤Max.max d3 d4∧Max.max d3 d4≤_;omega
 ·show _≤Min.min o1 o2∧Min.min o1 o2≤_;omega
 ·show _≤Max.max o3 o4∧Max.max o3 o4≤_;omega
/-
  Plain laws: the values of a node, in program and reference.
-/
abbrev NSt:=Option (Zu×Zu)
def Znj:Zu:=((0:Int),(0:Int),())
def hul (a b:Zu):Zu:=(Min.min (Zu.Early a) (Zu.Early b),Max.max (Zu.Late a) (Zu.Late b),())
def ZuO (st:NSt) (a s:Zu):NSt:=match st with
 | none=>some (a,s)
 | some q=>some (hul q.1 a,hul q.2 s)
def ZpV (a d:Zu):Zu:=(Wq (Zu.Early a+Zu.Early d),Wq (Zu.Late a+Zu.Late d),())
def encI (node:Int) (st:NSt):Int×Int×Int×Int×Int×Bool×Unit:=match st with
 | none=>(node,0,0,0,0,false,())
 | some q=>(node,Zu.Early q.1,Zu.Late q.1,Zu.Early q.2,Zu.Late q.2,true,())
def ZrQ (node:Int) (st:NSt):Bool×Zj:=match st with
 | none=>(false,((0:Int),Znj,Znj,()))
 | some q=>(true,(node,q.1,q.2,()))
theorem Zrk (a b:Zu):hul a b=hul b a:=by unfold hul;rw [Int.min_comm,Int.max_comm]
noncomputable def spn (b:Zd) (c:Zv) (x:Zq) (s:Zu):Zu×Zu:=(ZcK b c x s).getD (Znj,Znj)
noncomputable def ZrX (b:Zd) (c:Zv) (t:Zk) (x:Zq) (st:NSt):NSt :=
 if (atI (Zk.Reached t) (Zq.From x)).getD false=true then ZuO st (ZpV ((atI (Zk.ZB t) (Zq.From x)).getD Znj) (spn b c x ((atI (Zk.X7 t) (Zq.From x)).getD Znj)).1) (spn b c x ((atI (Zk.X7 t) (Zq.From x)).getD Znj)).2 else st
def ZBi (s:Zu):Prop:=(-1000000≤Zu.Early s∧Zu.Early s≤1000000)∧(-1000000≤Zu.Late s∧Zu.Late s≤1000000)
structure ZsL (n:Nat) (t:Zk):Prop where
 lr:(Zk.Reached t).length=n
 la:(Zk.ZB t).length=n
 ls:(Zk.X7 t).length=n
 sl:∀ s∈Zk.X7 t,ZBi s
theorem Zto {b:Zd} (h:Qm b) {t:Zk} (ht:ZsL (2*(places (Zd.Design b)).length) t) {x:Zq} (hx:x∈Zx b) :
  ∃ r a s,atI (Zk.Reached t) (Zq.From x)=some r∧atI (Zk.ZB t) (Zq.From x)=some a∧atI (Zk.X7 t) (Zq.From x)=some s∧ZBi s:=by
 have hf:=(Zf3 h hx).1
 obtain ⟨r,hr,_⟩:=Zh6 (l:=Zk.Reached t) hf.1 (by rw [ht.lr];omega)
 obtain ⟨a,ha,_⟩:=Zh6 (l:=Zk.ZB t) hf.1 (by rw [ht.la];omega)
 obtain ⟨s,hs,hm⟩:=Zh6 (l:=Zk.X7 t) hf.1 (by rw [ht.ls];omega)
 exact ⟨r,a,s,hr,ha,hs,ht.sl s hm⟩
theorem ZpA (node:Int) (st:NSt) (a s:Zu):∃ j,Vf (node,((encI node st).2.1,(encI node st).2.2.1,()),((encI node st).2.2.2.1,(encI node st).2.2.2.2.1,()),()) (encI node st).2.2.2.2.2.1 a s=some j∧(j.fst.fst,j.fst.snd.fst.fst,j.fst.snd.fst.snd.fst,j.fst.snd.snd.fst.fst,j.fst.snd.snd.fst.snd.fst,j.snd,())=encI node (ZuO st a s):=by
 cases st with
 | none=>exact ⟨_,rfl,rfl⟩
 | some q=>exact ⟨_,rfl,rfl⟩
theorem Znw {b:Zd} (h:Qm b) {v:ZE} (hv:VOk b v) {c:Zv} (hc:JL c) {live:List Bool} {t:Zk} (ht:ZsL (2*(places (Zd.Design b)).length) t) {L:List Int} {node:Int} {m k:Nat} {x:Zq} (hm:L[m]?=some (k:Int)) (hx:(Zx b)[k]?=some x) (hL:m≤1048576) (st:NSt) :
  YI (v,live,()) c t L (m:Int) (encI node st).1 (encI node st).2.1 (encI node st).2.2.1 (encI node st).2.2.2.1 (encI node st).2.2.2.2.1 (encI node st).2.2.2.2.2.1=some (.inl (((m+1:Nat):Int),encI node (ZrX b c t x st))):=by
 have hk:=(List.getElem?_eq_some_iff.1 hm).1
 obtain ⟨r,a,s,hr,ha,hs,hsb⟩:=Zto h ht (List.mem_of_getElem? hx)
 obtain ⟨d,o,e1,e2,_⟩:=spans_eq h hv hc hx hsb.1 hsb.2
 have hl:atI (ZE.links (Yp.view ((v,live,()):Yp))) (k:Int)=some x:=by
  show atI (ZE.links v) (k:Int)=some x
  rw [hv.links,Zn];exact hx
 have hsp:spn b c x s=(d,o):=by unfold spn;rw [e2];rfl
 have hu:ZrX b c t x st=if r=true then ZuO st (ZpV a d) o else st:=by
  unfold ZrX
  rw [hr,ha,hs]
  simp only [Option.getD_some,hsp]
 have hn:(encI node st).1=node:=by cases st<;>rfl
 obtain ⟨j,j1,j2⟩:=ZpA node st (ZpV a d) o
 unfold YI
 rw [if_pos (by omega),Zn,hm,Bq,hl,Bq,hr,Bq,hu]
 by_cases q:r=true
 ·rw [if_pos q,if_pos q,hs,Bq]
  show (VZ v c (k:Int) s).bind _=_
  rw [e1,Bq,ha,Bq]
  show (Vf _ _ (ZpV a d) o).bind _=_
  rw [hn,j1,Bq,Xo hL,←j2]
 ·rw [if_neg q,if_neg q,Xo hL]
theorem ZoM {g:Yp} {c:Zv} {t:Zk} {L:List Int} {node:Int} (st:NSt) :
  YI g c t L (L.length:Int) (encI node st).1 (encI node st).2.1 (encI node st).2.2.1 (encI node st).2.2.2.1 (encI node st).2.2.2.2.1 (encI node st).2.2.2.2.2.1=some (.inr (ZrQ node st)):=by
 unfold YI
 rw [if_neg (Int.lt_irrefl _)]
 cases st<;>rfl
theorem Znv {b:Zd} (h:Qm b) {v:ZE} (hv:VOk b v) {c:Zv} (hc:JL c) {live:List Bool} {t:Zk} (ht:ZsL (2*(places (Zd.Design b)).length) t) {L:List Int} {node:Int} (hl:L.length≤1048576) {f:Int→NSt→NSt}
  (hf:∀ y∈L,∃ (k:Nat) (x:Zq),y=(k:Int)∧(Zx b)[k]?=some x∧∀ st,f y st=ZrX b c t x st) (st0:NSt) :
  Zm (fun u=>YI (v,live,()) c t L u.1 u.2.1 u.2.2.1 u.2.2.2.1 u.2.2.2.2.1 u.2.2.2.2.2.1 u.2.2.2.2.2.2.1) ((0:Int),encI node st0)=some (ZrQ node (foldI (fun _ y st=>f y st) 0 L st0)):=by
 refine Zet (l:=L) (by unfold Len;omega) (fun st i=>(i,encI node st)) (f:=fun _ y st=>f y st) (s0:=st0) (fun _ _=>True) trivial (fun m y st hy _ _=>⟨?_,trivial⟩) (fun st _ he=>?_)
 ·have hm:=(List.getElem?_eq_some_iff.1 hy).1
  obtain ⟨k,x,rfl,hx,hu⟩:=hf y (List.mem_of_getElem? hy)
  rw [hu,Xo (by omega)]
  exact Znw h hv hc ht hy hx (by omega) st
 ·rw [←he]
  exact ZoM st
def encS (node:Int) (st:NSt) (i:Int):Bool×Int×Int×Int×Int×Int×Int×Unit:=match st with
 | none=>(false,i,0,0,0,0,0,())
 | some q=>(true,i,node,Zu.Early q.1,Zu.Late q.1,Zu.Early q.2,Zu.Late q.2,())
theorem ZnU {b:Zd} (h:Qm b) {v:ZE} (hv:VOk b v) {c:Zv} (hc:JL c) {live:List Bool} {t:Zk} (ht:ZsL (2*(places (Zd.Design b)).length) t) {node:Int} {k:Nat} {x:Zq} {lv:Bool} (hx:(Zx b)[k]?=some x) (hlv:live[k]?=some lv) (hk:k≤1048576) (st:NSt) :
  Xn b c (Zx b) live t node (encS node st (k:Int)).1 (k:Int) (encS node st (k:Int)).2.2.1 (encS node st (k:Int)).2.2.2.1 (encS node st (k:Int)).2.2.2.2.1 (encS node st (k:Int)).2.2.2.2.2.1 (encS node st (k:Int)).2.2.2.2.2.2.1=some (.inl (encS node (if lv=true then (if Zq.To x=node then ZrX b c t x st else st) else st) ((k+1:Nat):Int))):=by
 have hkl:=(List.getElem?_eq_some_iff.1 hx).1
 obtain ⟨r,a,s,hr,ha,hs,hsb⟩:=Zto h ht (List.mem_of_getElem? hx)
 obtain ⟨d,o,e1,e2,_⟩:=spans_eq h hv hc hx hsb.1 hsb.2
 have hsp:spn b c x s=(d,o):=by unfold spn;rw [e2];rfl
 have hu:ZrX b c t x st=if r=true then ZuO st (ZpV a d) o else st:=by
  unfold ZrX
  rw [hr,ha,hs]
  simp only [Option.getD_some,hsp]
 unfold Xn
 rw [if_pos (by omega),Zn,hx,Bq,Zn,hlv,Bq,Xo hk]
 by_cases q1:lv=true
 ·rw [if_pos q1,if_pos q1]
  by_cases q2:Zq.To x=node
  ·rw [if_pos q2,if_pos q2,hr,Bq,hu]
   by_cases q3:r=true
   ·rw [if_pos q3,if_pos q3,hs,Bq,e2,Bq,ha,Bq]
    cases st with
    | none=>rfl
    | some q =>
     show some (Sum.inl (true,((k+1:Nat):Int),node,Zu.Early (hul (ZpV a d) q.1),Zu.Late (hul (ZpV a d) q.1),Zu.Early (hul o q.2),Zu.Late (hul o q.2),()))=_
     rw [Zrk (ZpV a d),Zrk o]
     rfl
   ·rw [if_neg q3,if_neg q3]
    cases st<;>rfl
  ·rw [if_neg q2,if_neg q2]
   cases st<;>rfl
 ·rw [if_neg q1,if_neg q1]
  cases st<;>rfl
/-
  Plain laws: the values of a node: program and reference alike.
-/
def toF (live:List Bool) (node:Int) (k:Nat) (x:Zq):List Int:=if (live[k]?).getD false=true then (if Zq.To x=node then [(k:Int)] else []) else []
def toL (b:Zd) (live:List Bool) (node:Int):List Int:=cat (toF live node) 0 (Zx b)
theorem ZwU (live:List Bool) (node:Int) (k:Nat) (x:Zq):(toF live node k x).length≤1:=by
 unfold toF
 split
 ·split<;>simp
 ·simp
theorem Zt7 {b:Zd} (h:Qm b) (live:List Bool) (node:Int) (n:Nat):(cat (toF live node) 0 ((Zx b).take n)).length≤6000:=by
 have h1:=VQ (f:=toF live node) (c:=1) (l:=(Zx b).take n) (m:=0) (fun k x _=>ZwU live node k x)
 have h2:=Qv h
 rw [List.length_take] at h1
 omega
theorem ZqC {b:Zd} (h:Qm b) {v:ZE} (hv:VOk b v) {live:List Bool} (hl:live.length=(Zx b).length) (node:Int):Zck (v,live,()) node=some (toL b live node):=by
 have h6:=Qv h
 have el:ZE.links (Yp.view ((v,live,()):Yp))=Zx b:=hv.links
 have ev:Yp.live ((v,live,()):Yp)=live:=rfl
 unfold Zck Xj
 have:=Xp (l:=Zx b) (ρ:=List Int) (toF live node) [] (step:=fun u=>Yk (v,live,()) (node,()) u.1 u.2.1) (good:=toL b live node)
  (fun k x hx hk=>by
   have hlv:live[k]?=some (live[k]'(by omega)):=List.getElem?_eq_getElem _
   have hlen:=Zt7 h live node k
   simp only [Yk,el,ev,show (k:Int)<((Zx b).length:Int) from by omega,if_true,Zn,hx,hlv,Bq,ZdR,List.nil_append,Xo (show k≤1048576 by omega)]
   unfold toF at *
   rw [hlv]
   simp only [Option.getD_some]
   by_cases q1:live[k]'(by omega)=true
   ·rw [if_pos q1,if_pos q1]
    by_cases q2:Zq.To x=node
    ·rw [if_pos (decide_eq_true q2),if_pos q2,Zh (by simp only [List.length_cons,List.length_nil];omega)]
    ·rw [if_neg (by rw [decide_eq_true_eq];exact q2),if_neg q2,List.append_nil]
   ·rw [if_neg q1,if_neg q1,List.append_nil])
  (by simp only [Yk,el,Int.lt_irrefl,if_false,List.nil_append];rfl)
 rw [this]
 rfl
theorem Zpu {β σ:Type} (f:β→σ→σ):∀ (l:List β) (m n:Nat) (s:σ),foldI (fun _ y s=>f y s) m l s=foldI (fun _ y s=>f y s) n l s
 | [],_,_,_=>rfl
 | x::l,m,n,s=>by simp only [foldI];exact Zpu f l _ _ _
theorem Zju {α β σ:Type} {g:Nat→α→List β} (f:β→σ→σ):∀ (l:List α) (m:Nat) (s:σ),foldI (fun _ y s=>f y s) 0 (cat g m l) s=foldI (fun k x s=>foldI (fun _ y s=>f y s) 0 (g k x) s) m l s
 | [],_,_=>rfl
 | x::l,m,s=>by
  show foldI (fun _ y s=>f y s) 0 (g m x++cat g (m+1) l) s=_
  rw [Ze0,Zpu f (cat g (m+1) l) _ 0,Zju f l (m+1)]
  rfl
theorem Zmd {α σ:Type} {f g:Nat→α→σ→σ}:∀ (l:List α) (m:Nat) (s:σ),(∀ k x s,l[k]?=some x→f (m+k) x s=g (m+k) x s)→foldI f m l s=foldI g m l s
 | [],_,_,_=>rfl
 | x::l,m,s,h=>by
  simp only [foldI]
  have h0:=h 0 x s rfl
  rw [Nat.add_zero] at h0
  rw [h0]
  refine Zmd l (m+1) _ fun k y s hy=>?_
  rw [show m+1+k=m+(k+1) by omega]
  exact h (k+1) y s (by rw [List.getElem?_cons_succ];exact hy)
def Zg1 (l:List Zj) (node:Int):NSt:=foldI (fun _ x st=>if Zj.Node x=node then some (Zj.ZB x,Zj.X7 x) else st) 0 l none
def Zq3 (l:List Zj):Prop:=∀ (i j:Nat) (x y:Zj),l[i]?=some x→l[j]?=some y→Zj.Node x=Zj.Node y→i=j
theorem Zpa {l:List Zj} (hl:Len l) {b:Zd} {c:Zv} {L:List Zq} {live:List Bool} {t:Zk} {node:Int} {R:Bool×Zj}
  (hR:Zm (fun v=>Xn b c L live t node v.1 v.2.1 v.2.2.1 v.2.2.2.1 v.2.2.2.2.1 v.2.2.2.2.2.1 v.2.2.2.2.2.2.1) (encS node (Zg1 l node) 0)=some (.inr R)):ZdM b c L live l t node=some R:=by
 unfold ZdM
 refine Zet (l:=l) hl (fun st i=>encS node st i) (f:=fun _ x st=>if Zj.Node x=node then some (Zj.ZB x,Zj.X7 x) else st) (s0:=none) (fun _ _=>True) trivial (fun k x st hx _ _=>⟨?_,trivial⟩) (fun st _ he=>?_)
 ·have hk:=(List.getElem?_eq_some_iff.1 hx).1
  have e:∀ st:NSt,(encS node st (k:Int)).2.1=(k:Int):=fun st=>by cases st<;>rfl
  show VB b c L live l t node (encS node st (k:Int)).1 (encS node st (k:Int)).2.1 (encS node st (k:Int)).2.2.1 (encS node st (k:Int)).2.2.2.1 (encS node st (k:Int)).2.2.2.2.1 (encS node st (k:Int)).2.2.2.2.2.1 (encS node st (k:Int)).2.2.2.2.2.2.1=_
  rw [e]
  unfold VB
  rw [if_pos (by omega),Zn,hx,Bq]
  by_cases q:Zj.Node x=node
  ·rw [if_pos q,if_pos q,q]
   rfl
  ·rw [if_neg q,if_neg q]
   cases st<;>rfl
 ·have es:st=Zg1 l node:=he
  subst es
  have e:∀ st:NSt,(encS node st (l.length:Int)).2.1=(l.length:Int):=fun st=>by cases st<;>rfl
  show VB b c L live l t node (encS node (Zg1 l node) (l.length:Int)).1 (encS node (Zg1 l node) (l.length:Int)).2.1 (encS node (Zg1 l node) (l.length:Int)).2.2.1 (encS node (Zg1 l node) (l.length:Int)).2.2.2.1 (encS node (Zg1 l node) (l.length:Int)).2.2.2.2.1 (encS node (Zg1 l node) (l.length:Int)).2.2.2.2.2.1 (encS node (Zg1 l node) (l.length:Int)).2.2.2.2.2.2.1=_
  rw [e]
  unfold VB
  rw [if_neg (Int.lt_irrefl _),←hR]
  cases Zg1 l node<;>rfl
theorem ZnT {b:Zd} (h:Qm b) {v:ZE} (hv:VOk b v) {c:Zv} (hc:JL c) {live:List Bool} (hl:live.length=(Zx b).length) {t:Zk} (ht:ZsL (2*(places (Zd.Design b)).length) t) {node:Int} (st0:NSt) :
  Zm (fun v=>Xn b c (Zx b) live t node v.1 v.2.1 v.2.2.1 v.2.2.2.1 v.2.2.2.2.1 v.2.2.2.2.2.1 v.2.2.2.2.2.2.1) (encS node st0 0)=some (.inr (ZrQ node (foldI (fun k x st=>if (live[k]?).getD false=true then (if Zq.To x=node then ZrX b c t x st else st) else st) 0 (Zx b) st0))):=by
 have h6:=Qv h
 refine Zet (l:=Zx b) (by unfold Len;omega) (fun st i=>encS node st i) (f:=fun k x st=>if (live[k]?).getD false=true then (if Zq.To x=node then ZrX b c t x st else st) else st) (s0:=st0) (fun _ _=>True) trivial (fun k x st hx _ _=>⟨?_,trivial⟩) (fun st _ he=>?_)
 ·have hk:=(List.getElem?_eq_some_iff.1 hx).1
  have hlv:live[k]?=some (live[k]'(by omega)):=List.getElem?_eq_getElem _
  have e:∀ st:NSt,(encS node st (k:Int)).2.1=(k:Int):=fun st=>by cases st<;>rfl
  have:=ZnU h hv hc ht (node:=node) hx hlv (by omega) st
  rw [hlv,Option.getD_some,Xo (by omega),←this]
  show Xn b c (Zx b) live t node (encS node st (k:Int)).1 (encS node st (k:Int)).2.1 _ _ _ _ _=_
  rw [e]
 ·rw [←he]
  have e:∀ st:NSt,(encS node st ((Zx b).length:Int)).2.1=((Zx b).length:Int):=fun st=>by cases st<;>rfl
  show Xn b c (Zx b) live t node (encS node st ((Zx b).length:Int)).1 (encS node st ((Zx b).length:Int)).2.1 _ _ _ _ _=_
  rw [e]
  unfold Xn
  rw [if_neg (Int.lt_irrefl _)]
  cases st<;>rfl
theorem Zpb {node:Int}:∀ (l:List Zj) (m:Nat) (st:NSt),(∀ x∈l,Zj.Node x≠node)→foldI (fun _ x st=>if Zj.Node x=node then some (Zj.ZB x,Zj.X7 x) else st) m l st=st
 | [],_,_,_=>rfl
 | x::l,m,st,h=>by
  simp only [foldI]
  rw [if_neg (h x List.mem_cons_self)]
  exact Zpb l (m+1) st fun y hy=>h y (List.mem_cons_of_mem _ hy)
theorem Zvd {l:List Zj} (h1:Zq3 l) {i:Nat} {x:Zj} (hx:l[i]?=some x) {node:Int} (hn:Zj.Node x=node):Zg1 l node=some (Zj.ZB x,Zj.X7 x):=by
 have hi:=(List.getElem?_eq_some_iff.1 hx).1
 have e:l=l.take i++x::l.drop (i+1):=by
  have:=List.take_append_drop i l
  rw [List.drop_eq_getElem_cons hi,(List.getElem?_eq_some_iff.1 hx).2] at this
  exact this.symm
 have hrest:∀ y∈l.drop (i+1),Zj.Node y≠node:=fun y hy q=>by
  obtain ⟨j,hj⟩:=List.mem_iff_getElem?.1 hy
  rw [List.getElem?_drop] at hj
  have:=h1 i (i+1+j) x y hx hj (by rw [hn,q])
  omega
 unfold Zg1
 rw [e,Ze0]
 simp only [foldI]
 rw [if_pos hn]
 exact Zpb _ _ _ hrest
theorem ZqU {l:List Zj} (hl:Len l) (h1:Zq3 l) (node:Int):∃ r:Zj×Bool,Zea l node=some r∧(r.2=true→Zg1 l node=some (Zj.ZB r.1,Zj.X7 r.1))∧(r.2=false→Zg1 l node=none):=by
 unfold Zea
 rw [XO hl (fun x=>decide (Zj.Node x=node)) (fun x _=>rfl),Bq]
 unfold ZbR
 cases e:l.findIdx? (fun x=>decide (Zj.Node x=node)) with
 | none =>
  rw [if_neg (by decide)]
  refine ⟨_,rfl,(fun q=>Bool.noConfusion q),fun _=>?_⟩
  rw [List.findIdx?_eq_none_iff] at e
  exact Zpb l 0 none fun x hx q=>by have:=e x hx;rw [decide_eq_false_iff_not] at this;exact this q
 | some i =>
  rw [List.findIdx?_eq_some_iff_getElem] at e
  obtain ⟨hi,hp,_⟩:=e
  have hx:l[i]?=some l[i]:=List.getElem?_eq_getElem hi
  dsimp only
  rw [if_pos (by omega),Zn,hx,Bq]
  exact ⟨_,rfl,fun _=>Zvd h1 hx (of_decide_eq_true hp),fun q=>Bool.noConfusion q⟩
noncomputable def Zj5 (b:Zd) (c:Zv) (live:List Bool) (l:List Zj) (t:Zk) (node:Int):NSt:=foldI (fun k x st=>if (live[k]?).getD false=true then (if Zq.To x=node then ZrX b c t x st else st) else st) 0 (Zx b) (Zg1 l node)
theorem Zp7 {b:Zd} (h:Qm b) {v:ZE} (hv:VOk b v) {c:Zv} (hc:JL c) {live:List Bool} (hl:live.length=(Zx b).length) {t:Zk} (ht:ZsL (2*(places (Zd.Design b)).length) t) {l:List Zj} (hs:Len l) (node:Int) :
  ZdM b c (Zx b) live l t node=some (ZrQ node (Zj5 b c live l t node)) :=
 Zpa hs (ZnT h hv hc hl ht (Zg1 l node))
theorem ZpB {b:Zd} (h:Qm b) {v:ZE} (hv:VOk b v) {c:Zv} (hc:JL c) {live:List Bool} (hl:live.length=(Zx b).length) {t:Zk} (ht:ZsL (2*(places (Zd.Design b)).length) t) {l:List Zj} (hs:Len l) (h1:Zq3 l) (node:Int) :
  VN (v,live,()) c l t node=some (ZrQ node (Zj5 b c live l t node)):=by
 obtain ⟨r,r1,r2,r3⟩:=ZqU hs h1 node
 have hlen:=Zt7 h live node (Zx b).length
 rw [List.take_length] at hlen
 have hto:=ZqC h hv hl node
 let f:Int→NSt→NSt:=fun y st=>match (Zx b)[y.toNat]? with
  | some x=>ZrX b c t x st
  | none=>st
 have hf:∀ y∈toL b live node,∃ (k:Nat) (x:Zq),y=(k:Int)∧(Zx b)[k]?=some x∧∀ st,f y st=ZrX b c t x st:=fun y hy=>by
  obtain ⟨k,x,hx,hyx⟩:=Qw.1 hy
  rw [Nat.zero_add] at hyx
  unfold toF at hyx
  split at hyx
  ·split at hyx
   ·have ey:=List.mem_singleton.1 hyx
    refine ⟨k,x,ey,hx,fun st=>?_⟩
    show (match (Zx b)[y.toNat]? with
     | some x=>ZrX b c t x st
     | none=>st)=_
    rw [ey,Int.toNat_natCast,hx]
   ·cases hyx
  ·cases hyx
 have key:=Znv h hv hc ht (live:=live) (L:=toL b live node) (node:=node) (by unfold toL;omega) hf (Zg1 l node)
 have efold:foldI (fun _ y st=>f y st) 0 (toL b live node) (Zg1 l node)=Zj5 b c live l t node:=by
  unfold toL Zj5
  rw [Zju f]
  refine Zmd _ _ _ fun k x st hx=>?_
  rw [Nat.zero_add]
  unfold toF
  split
  ·split
   ·show (match (Zx b)[((k:Nat):Int).toNat]? with
     | some x=>ZrX b c t x st
     | none=>st)=_
    rw [Int.toNat_natCast,hx]
   ·rfl
  ·rfl
 rw [efold] at key
 unfold VN
 rw [r1,Bq,hto]
 cases e:r.2 with
 | true =>
  rw [if_pos rfl]
  rw [r2 e] at key
  exact key
 | false =>
  rw [if_neg (by decide),Bq]
  rw [r3 e] at key
  exact key
end Go.Proofs.YtclfgjepbamnlaaGreatDoor
