/-
  Plain laws: edits: what an edit may mention, and when it is possible.
-/
import Derived.Test.YtnnbgbgapogckaaGreatDoorLA
namespace Go.Proofs.YtnnbgbgapogckaaGreatDoor
set_option linter.unusedVariables false
set_option linter.unusedSimpArgs false
open Go Go.Sx
/-
  Plain laws: edits: range, possibility, code.
-/
/-
  Plain laws: edits: what is possible, the code of an edit, places after one.
-/
/-
  Plain laws: the code of an edit of any block.
-/
/-
  Plain laws: ports stand behind the instances.
-/
/-
  Plain laws: places, one by one; a place put on another net; an instance more, an instance less.
-/
def ZrQ (x:Zz) (j:Nat) (n:Int):Zz:=(Zz.Name x,Zz.Cell x,List.set (Zz.Zbh x) j n,())
def setPort (q:Zah) (n:Int):Zah:=(Zah.Name q,Zah.Dir q,n,())
def conn (d:Zp) (a b:Int) (n:Int):Zp :=
 if a<0 then (Zp.Instances d,Zp.Zbh d,match (Zp.Vk d)[b.toNat]? with
  | some q=>(Zp.Vk d).set b.toNat (setPort q n)
  | none=>Zp.Vk d,())
 else (match (Zp.Instances d)[a.toNat]? with
  | some x=>(Zp.Instances d).set a.toNat (ZrQ x b.toNat n)
  | none=>Zp.Instances d,Zp.Zbh d,Zp.Vk d,())
/-
  Plain laws: the wires' sinks out of the places' nodes.
-/
def nth (pl:List Pl) (net:Int) (k:Nat):Nat:=(cat (Zg9 net) 0 (pl.take k)).length
def Zpz (b:Zv) (k:Nat):Int:=match (places (Zv.Design b))[k]? with
 | some p=>if p.2.2.2.1=true then 0 else match (Zv.ZlA b)[p.2.2.1.toNat]? with
  | some w=>((QH.ZnH w)[nth (places (Zv.Design b)) p.2.2.1 k]?).getD 0
  | none=>0
 | none=>0
def Zrx (w:QH) (l:List Int):QH:=(QH.Parent w,QH.Res w,QH.Cap w,l,())
def wired (pl:List Pl) (ws:List QH) (nd:Nat→Int):List QH:=cat (fun v w=>[Zrx w ((cat (Zg9 (v:Int)) 0 pl).map (fun k=>nd k.toNat))]) 0 ws
/-
  Plain laws: maps by their keys.
-/
/-
  Plain laws: nodes by keys against nodes by places; kept when a place is put on another net, when an instance is added or removed.
-/
/-
  Plain laws: the map of nodes, place by place; lists of nodes.
-/
/-
  Plain laws: what edits make of designs, of nodes by place.
-/
theorem ZpC {d:Zp} {a b n:Int}:(Zp.Instances (conn d a b n)).length=(Zp.Instances d).length:=by
 unfold conn
 split
 ·rfl
 ·show (match (Zp.Instances d)[a.toNat]? with | some x=>(Zp.Instances d).set a.toNat (ZrQ x b.toNat n) | none=>Zp.Instances d).length=_
  split
  ·rw [List.length_set]
  ·rfl
theorem ZuB {d:Zp} {a b n:Int}:(Zp.Vk (conn d a b n)).length=(Zp.Vk d).length:=by
 unfold conn
 split
 ·show (match (Zp.Vk d)[b.toNat]? with | some x=>(Zp.Vk d).set b.toNat (setPort x n) | none=>Zp.Vk d).length=_
  split
  ·rw [List.length_set]
  ·rfl
 ·rfl
theorem Zs5 {d:Zp} {a b n:Int} {i:Nat} {y:Zz} (hy:(Zp.Instances (conn d a b n))[i]?=some y):∃ x,(Zp.Instances d)[i]?=some x∧Zz.Name y=Zz.Name x∧Zz.Cell y=Zz.Cell x∧(Zz.Zbh y).length=(Zz.Zbh x).length∧((i:Int)≠a→y=x)∧∀ m∈Zz.Zbh y,m∈Zz.Zbh x∨m=n:=by
 unfold conn at hy
 split at hy
 ·exact ⟨y,hy,rfl,rfl,rfl,fun _=>rfl,fun m hm=>.inl hm⟩
 ·rename_i h
  have hy:(match (Zp.Instances d)[a.toNat]? with | some x=>(Zp.Instances d).set a.toNat (ZrQ x b.toNat n) | none=>Zp.Instances d)[i]?=some y:=hy
  split at hy
  ·rename_i x hx
   rw [List.getElem?_set] at hy
   split at hy
   ·rename_i e
    split at hy
    ·injection hy with hy
     subst hy
     refine ⟨x,by rw [←e];exact hx,rfl,rfl,List.length_set,fun q=>absurd (by omega) q,fun m hm=>?_⟩
     rcases List.mem_or_eq_of_mem_set hm with hm | hm
     ·exact .inl hm
     ·exact .inr hm
    ·cases hy
   ·exact ⟨y,hy,rfl,rfl,rfl,fun _=>rfl,fun m hm=>.inl hm⟩
  ·exact ⟨y,hy,rfl,rfl,rfl,fun _=>rfl,fun m hm=>.inl hm⟩
theorem Few.conn {d:Zp} (h:Few d) (a b n:Int):Few (conn d a b n):=by
 refine ⟨by rw [ZpC];exact h.insts,by rw [ZuB];exact h.ports,fun y hy=>?_⟩
 obtain ⟨i,hi⟩:=List.getElem?_of_mem hy
 obtain ⟨x,hx,_,_,hl,_⟩:=Zs5 hi
 rw [hl]
 exact h.nets x (List.mem_of_getElem? hx)
def mvD (b:Zv) (p:Pl) (n:Int):Zp:=conn (Zv.Design b) p.1 p.2.1 n
def mvN (b:Zv) (k:Nat) (v:Int) (j:Nat):Int:=if j=k then v else Zpz b j
def moved (b:Zv) (k:Nat) (p:Pl) (n v:Int):Zv:=(Zv.Library b,mvD b p n,wired (places (mvD b p n)) (Zv.ZlA b) (mvN b k v),())
/-
  Plain laws: clones are what they are made of.
-/
/-
  Plain laws: the nodes of all sinks, by key (program) and by place (reference).
-/
/-
  Plain laws: the reference's nodes by place.
-/
/-
  Plain laws: sinks put in anew, a place put on another net, a buffer taken away.
-/
/-
  Plain laws: a buffer taken away; inverse edits.
-/
/-
  Plain laws: inverse edits.
-/
/-
  Plain laws: designs stay valid when a place is put on another net, when a buffer is added or taken away.
-/
theorem ZrY.put {w:QH} {s:Int} (h:ZrY w s) {l:List Int} (hl:ZuY l 0 (((QH.Parent w).length:Int)-1)):ZrY (Zrx w l) (l.length:Int) :=
 ⟨h.1,h.2.1,h.2.2.1,rfl,h.2.2.2.2.1,h.2.2.2.2.2.1,h.2.2.2.2.2.2.1,hl⟩
theorem Zc6.take {l:List (List UInt8)} (h:Zc6 l l.length) (m:Nat):Zc6 (l.take m) (l.take m).length:=by
 intro j t hj ht
 rw [List.length_take] at hj
 rw [List.getElem?_take,if_pos (by omega)] at ht
 obtain ⟨a,b⟩:=h j t (by omega) ht
 refine ⟨a,?_⟩
 rw [List.take_take,Nat.min_eq_left (by omega)]
 exact b
/-
  Plain laws: the blocks that edits make are valid.
-/
theorem Zxz {l:List Int} (h:l.length≤1048576):sm (.sl (.int .i64)) l:=⟨by omega,fun _ _=>trivial⟩
theorem ZuG {a b c d:List Int} (h1:a.length≤1048576) (h2:b.length≤1048576) (h3:c.length≤1048576) (h4:d.length≤1048576):sm ZjY (a,b,c,d,()):=⟨Zxz h1,Zxz h2,Zxz h3,Zxz h4,trivial⟩
theorem Ztr {a:List Zz} {b:List (List UInt8)} {c:List Zah} (h1:sm (.sl ZdO) a) (h2:sm (.sl .str) b) (h3:sm (.sl ZkZ) c):sm ZdN (a,b,c,()):=⟨h1,h2,h3,trivial⟩
theorem Zs0 {a:ZaF} {b:Zp} {c:List QH} (h1:sm Zc3 a) (h2:sm ZdN b) (h3:sm (.sl ZjY) c):sm ZjX (a,b,c,()):=⟨h1,h2,h3,trivial⟩
/-
  Plain laws: a block with a buffer less is valid.
-/
/-
  Plain laws: the reference's own copies; places connected, sinks attached (reference); edits applied.
-/
/-
  Plain laws: a buffer put in, a buffer taken away: the program and the reference; edits applied.
-/
/-
  Plain laws: the reference removes a buffer; an edit applied, by program and reference.
-/
end Go.Proofs.YtnnbgbgapogckaaGreatDoor
