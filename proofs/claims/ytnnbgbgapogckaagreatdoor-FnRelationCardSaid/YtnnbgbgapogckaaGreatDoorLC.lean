/-
  Plain laws: lists of numbers, tables.
-/
import Derived.Test.YtnnbgbgapogckaaGreatDoorLA
namespace Go.Proofs.YtnnbgbgapogckaaGreatDoor
set_option linter.unusedVariables false
set_option linter.unusedSimpArgs false
open Go Go.Sx
/-
  Plain laws: pins, arcs, cells.
-/
theorem ZkH {α τ ρ:Type} {l:List α} (pk:Nat→τ) (P:Nat→α→Prop) {step:τ→Option (τ ⊕ ρ)} {bad good:ρ}
  (hs:∀ (k:Nat) (x:α),l[k]?=some x→k<l.length→(∀ (j:Nat) (y:α),j<k→l[j]?=some y→P j y)→(P k x→step (pk k)=some (.inl (pk (k+1))))∧(¬P k x→step (pk k)=some (.inr bad)))
  (hx:Zna l P→step (pk l.length)=some (.inr good)):ZA step (pk 0)=some (sel (Zna l P) good bad):=by
 refine XC l.length (fun k v=>v=pk k∧∀ (j:Nat) (y:α),j<k→l[j]?=some y→P j y) _ ⟨rfl,fun j y hj=>by omega⟩ ?_ ?_
 ·rintro k v hk ⟨rfl,hS⟩
  have hx:l[k]?=some l[k]:=List.getElem?_eq_getElem hk
  obtain ⟨h1,h2⟩:=hs k _ hx hk hS
  by_cases hP:P k l[k]
  ·refine .inl ⟨_,h1 hP,rfl,fun j y hj hy=>?_⟩
   by_cases hjk:j<k
   ·exact hS j y hjk hy
   ·have:j=k:=by omega
    subst this
    rw [hx] at hy;injection hy with hy;subst hy
    exact hP
  ·right
   rw [h2 hP,Zl6 (fun h=>hP (h k _ hx))]
 ·rintro v ⟨rfl,hS⟩
  have hA:Zna l P:=fun k x hk=>hS k x (List.getElem?_eq_some_iff.1 hk).1 hk
  rw [hx hA,ZjL hA]
theorem ZgW {α τ ρ:Type} {l:List α} (pk:Nat→τ) {step:τ→Option (τ ⊕ ρ)} {good:ρ}
  (hs:∀ (k:Nat) (x:α),l[k]?=some x→k<l.length→step (pk k)=some (.inl (pk (k+1)))) (hx:step (pk l.length)=some (.inr good)):ZA step (pk 0)=some good:=by
 have:=ZkH (l:=l) pk (fun _ _=>True) (step:=step) (bad:=good) (good:=good) (fun k x h1 h2 _=>⟨fun _=>hs k x h1 h2,fun h=>absurd trivial h⟩) (fun _=>hx)
 rw [this,ZjL (show Zna l (fun _ _=>True) from fun _ _ _=>trivial)]
/-
  Plain laws: pins by the reference; arcs.
-/
theorem Zkd {n:Nat} (h:n≤1048576):Wq ((n:Int)+1)=((n+1:Nat):Int):=by rw [XD (by omega) (by omega)];omega
/-
  Plain laws: arcs.
-/
/-
  Plain laws: cells and libraries.
-/
/-
  Plain laws: cells by the reference; libraries.
-/
/-
  Plain laws: libraries; names of a design.
-/
/-
  Plain laws: designs.
-/
/-
  Plain laws: designs by the reference; places.
-/
/-
  Plain laws: places, sinks, wires.
-/
def cat {α β:Type} (f:Nat→α→List β):Nat→List α→List β
 | _,[]=>[]
 | k,x::r=>f k x++cat f (k+1) r
theorem ZeE {α β:Type} (f:Nat→α→List β):∀ (l r:List α) (m:Nat),cat f m (l++r)=cat f m l++cat f (m+l.length) r
 | [],r,m=>by simp [cat]
 | x::l,r,m=>by
  simp only [List.cons_append,cat,List.length_cons,ZeE f l r,List.append_assoc]
  rw [show m+1+l.length=m+(l.length+1) by omega]
theorem Zkj {α β:Type} {f:Nat→α→List β} {l:List α} {k:Nat} {x:α} (hx:l[k]?=some x):cat f 0 (l.take (k+1))=cat f 0 (l.take k)++f k x:=by
 have hk:=(List.getElem?_eq_some_iff.1 hx).1
 rw [JI hx,ZeE]
 simp only [cat,Nat.zero_add,List.length_take,List.append_nil]
 rw [show min k l.length=k by omega]
theorem Zb1 {α β:Type} {f:Nat→α→List β} {c:Nat}:∀ {l:List α} {m:Nat},(∀ k,∀ x∈l,(f k x).length≤c)→(cat f m l).length≤c*l.length
 | [],m,_=>by simp [cat]
 | z::r,m,h=>by
  simp only [cat,List.length_append,List.length_cons]
  have h1:=h m z (by simp)
  have h2:=Zb1 (f:=f) (l:=r) (m:=m+1) (fun k x hx=>h k x (by simp [hx]))
  rw [Nat.mul_add];omega
theorem ZaG {α β ρ:Type} {l:List α} (f:Nat→α→List β) (acc:List β) {step:List β×Int×Unit→Option ((List β×Int×Unit) ⊕ ρ)} {good:ρ}
  (hs:∀ (k:Nat) (x:α),l[k]?=some x→k<l.length→step (acc++cat f 0 (l.take k),(k:Int),())=some (.inl ((acc++cat f 0 (l.take k))++f k x,((k+1:Nat):Int),())))
  (hx:step (acc++cat f 0 l,(l.length:Int),())=some (.inr good)):ZA step (acc,(0:Int),())=some good:=by
 have:=ZgW (l:=l) (ρ:=ρ) (fun k=>(acc++cat f 0 (l.take k),(k:Int),())) (step:=step) (good:=good) (fun k x hx hk=>by
  rw [hs k x hx hk,Zkj hx,List.append_assoc]) (by simp only [List.take_length];exact hx)
 simpa [cat] using this
abbrev Pl:=Int×Int×Int×Bool×Unit
def ZeJ (i:Nat) (x:Zz):List Pl:=cat (fun j n=>[((i:Int),(j:Int),n,decide ((j:Int)=Wq (((Zz.Zbh x).length:Int)-1)),())]) 0 (Zz.Zbh x)
def ZdA (j:Nat) (p:Zah):List Pl:=[((-1:Int),(j:Int),Zah.Net p,decide (Zah.Dir p=1),())]
def places (d:Zp):List Pl:=cat ZeJ 0 (Zp.Instances d)++cat ZdA 0 (Zp.Vk d)
theorem Zh2 (i:Nat) (x:Zz):(ZeJ i x).length≤(Zz.Zbh x).length:=by
 have:=Zb1 (f:=fun j n=>[((i:Int),(j:Int),n,decide ((j:Int)=Wq (((Zz.Zbh x).length:Int)-1)),())]) (c:=1) (l:=Zz.Zbh x) (m:=0) (fun _ _ _=>by simp)
 simpa [ZeJ] using this
structure Few (d:Zp):Prop where
 insts:(Zp.Instances d).length≤14
 ports:(Zp.Vk d).length≤8
 nets:∀ x∈Zp.Instances d,(Zz.Zbh x).length≤5
theorem Zap {d:Zp} (h:Few d) (k:Nat):(cat ZeJ 0 ((Zp.Instances d).take k)).length≤70:=by
 have:=Zb1 (f:=ZeJ) (c:=5) (l:=(Zp.Instances d).take k) (m:=0) (fun i x hx=>by
  have h1:=Zh2 i x
  have h2:=h.nets x (List.mem_of_mem_take hx)
  omega)
 have h1:=h.insts
 rw [List.length_take] at this
 omega
theorem Zcv {d:Zp} (h:Few d) (k:Nat):(cat ZdA 0 ((Zp.Vk d).take k)).length≤8:=by
 have:=Zb1 (f:=ZdA) (c:=1) (l:=(Zp.Vk d).take k) (m:=0) (fun i x hx=>by simp [ZdA])
 have h1:=h.ports
 rw [List.length_take] at this
 omega
theorem Zck {d:Zp} (h:Few d):(places d).length≤78:=by
 have h1:=Zap h (Zp.Instances d).length
 have h2:=Zcv h (Zp.Vk d).length
 rw [List.take_length] at h1 h2
 unfold places
 rw [List.length_append];omega
theorem JF (d:Zp) (h:Few d):YJ d=some (places d):=by
 have h1:=h.insts
 have h2:=h.ports
 unfold YJ
 refine ZaG (l:=Zp.Instances d) ZeJ [] (fun k x hx hk=>?_) ?_
 ·have hn:=h.nets x (List.mem_of_getElem? hx)
  have hl:=Zap h k
  simp only [List.nil_append,YZ,show (k:Int)<((Zp.Instances d).length:Int) from by omega,if_true,VU,hx,Bq]
  refine ZaG (l:=Zz.Zbh x) (fun j n=>[((k:Int),(j:Int),n,decide ((j:Int)=Wq (((Zz.Zbh x).length:Int)-1)),())]) _ (fun j n hj hk'=>?_) ?_
  ·have hl2:=Zb1 (f:=fun j n=>[((k:Int),(j:Int),n,decide ((j:Int)=Wq (((Zz.Zbh x).length:Int)-1)),())]) (c:=1) (l:=(Zz.Zbh x).take j) (m:=0) (fun _ _ _=>by simp)
   rw [List.length_take] at hl2
   simp only [YW,show (j:Int)<((Zz.Zbh x).length:Int) from by omega,if_true,VU,hj,Bq]
   rw [ZB (by rw [List.length_append,List.length_singleton];omega),Zkd (by omega)]
  ·simp only [YW,Int.lt_irrefl,if_false]
   rw [Zkd (by omega)];rfl
 ·have hl:=Zap h (Zp.Instances d).length
  rw [List.take_length] at hl
  simp only [List.nil_append,YZ,Int.lt_irrefl,if_false]
  refine ZaG (l:=Zp.Vk d) ZdA _ (fun j p hj hk'=>?_) ?_
  ·have hl2:=Zcv h j
   simp only [YX,show (j:Int)<((Zp.Vk d).length:Int) from by omega,if_true,VU,hj,Bq]
   rw [ZB (by rw [List.length_append,List.length_singleton];omega),Zkd (by omega)];rfl
  ·simp only [YX,Int.lt_irrefl,if_false];rfl
def Zg9 (net:Int) (i:Nat) (x:Pl):List Int:=if x.2.2.1=net then (if x.2.2.2.1=true then [] else [(i:Int)]) else []
def sinks (d:Zp) (net:Int):List Int:=cat (Zg9 net) 0 (places d)
theorem Zgm (net:Int) (l:List Pl) (m:Nat):(cat (Zg9 net) m l).length≤l.length:=by
 have:=Zb1 (f:=Zg9 net) (c:=1) (l:=l) (m:=m) (fun i x _=>by
  unfold Zg9;split
  ·split<;>simp
  ·simp)
 omega
theorem ZcT (d:Zp) (net:Int) (h:Few d):QT d net=some (sinks d net):=by
 have hp:=Zck h
 unfold QT
 rw [JF d h,Bq]
 refine ZaG (l:=places d) (Zg9 net) [] (fun k x hx hk=>?_) ?_
 ·have hl:=Zgm net ((places d).take k) 0
  rw [List.length_take] at hl
  simp only [List.nil_append,Xc,show (k:Int)<((places d).length:Int) from by omega,if_true,VU,hx,Bq,Zg9,Zkd (show k≤1048576 by omega)]
  split
  ·split
   ·rw [List.append_nil]
   ·rw [ZB (by
     show (List.length _+1)*8≤_
     have:(cat (Zg9 net) 0 ((places d).take k)).length≤78:=by omega
     omega)]
  ·rw [List.append_nil]
 ·simp only [List.nil_append,Xc,Int.lt_irrefl,if_false];rfl
/-
  Plain laws: wires, blocks.
-/
end Go.Proofs.YtnnbgbgapogckaaGreatDoor
