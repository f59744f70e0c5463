/-
  Plain laws: edits: what an edit may mention, and when it is possible.
-/
import Derived.Test.YtnnbgbgapogckaaGreatDoorLA
namespace Go.Proofs.YtnnbgbgapogckaaGreatDoor
set_option linter.unusedVariables false
set_option linter.unusedSimpArgs false
open Go Go.Sx
theorem ZvB {e:Zbk} (h:sm Zn2 e):sm .str (Zbk.Name e)∧sm ZjY (Zbk.ZoZ e):=⟨h.2.2.2.2.2.1,h.2.2.2.2.2.2.1⟩
def ZuZ (w:QH):Prop:=QH.Parent w=[]∧QH.Res w=[]∧QH.Cap w=[]∧QH.ZnH w=[]
def Blank (e:Zbk):Prop :=
 (Zbk.Kind e=1∧Zbk.Net e=0∧Zbk.Node e=0∧Zbk.Name e=[]∧ZuZ (Zbk.ZoZ e))∨
 (Zbk.Kind e=2∧Zbk.Net e=0∧Zbk.Node e=0∧ZuZ (Zbk.ZoZ e))∨
 (Zbk.Kind e=3∧Zbk.Place e=0∧Zbk.Cell e=0∧Zbk.Net e=0∧Zbk.Node e=0∧Zbk.Name e=[]∧ZuZ (Zbk.ZoZ e))∨
 (Zbk.Kind e=4∧Zbk.Cell e=0∧Zbk.Name e=[]∧ZuZ (Zbk.ZoZ e))∨
 (Zbk.Kind e=5∧Zbk.Place e=0∧Zbk.Cell e=0∧Zbk.Node e=0∧Zbk.Name e=[])
theorem Zsk (a b:List Int) (ha:a.length≤1048576):ZpL a b=some (tr (a=b)):=by
 unfold ZpL
 by_cases hl:(a.length:Int)=(b.length:Int)
 ·rw [if_pos hl,Zrc (l:=a) (show Len a by unfold Len;omega) (fun k x=>b[k]?=some x) (bad:=false) (good:=true)
   (fun k x hx hk _=>by
    have hy:b[k]?=some b[k]:=List.getElem?_eq_getElem (by omega)
    simp only [Zqr,show (k:Int)<(a.length:Int) from by omega,if_true,VU,hx,hy,Bq,Option.some.injEq]
    constructor
    ·intro hh;rw [if_pos hh.symm]
    ·intro hh;rw [if_neg (fun q=>hh q.symm)])
   (fun _=>by simp only [Zqr,Int.lt_irrefl,if_false]),Zxw]
  congr 1
  refine ZqI ⟨fun h=>?_,fun h=>by subst h;exact fun k x hx=>hx⟩
  apply List.ext_getElem?
  intro k
  by_cases hk:k<a.length
  ·rw [h k a[k] (List.getElem?_eq_getElem hk),List.getElem?_eq_getElem hk]
  ·rw [List.getElem?_eq_none (by omega),List.getElem?_eq_none (by omega)]
 ·rw [if_neg hl,Zag (fun h=>hl (by rw [h]))]
def ZyA (a b:QH):Prop:=QH.Parent a=QH.Parent b∧QH.Res a=QH.Res b∧QH.Cap a=QH.Cap b∧QH.ZnH a=QH.ZnH b
theorem ZwZ (a b:QH) (ha:sm ZjY a):ZtU a b=some (tr (ZyA a b)):=by
 obtain ⟨a1,a2,a3,a4⟩:=Zv3 ha
 have s1:=Zo9 a1
 have s2:=Zo9 a2
 have s3:=Zo9 a3
 have s4:=Zo9 a4
 unfold ZtU
 exact ZpR (Zsk _ _ s1) fun _=>ZpR (Zsk _ _ s2) fun _=>ZpR (Zsk _ _ s3) fun _=>Zs4 (Zsk _ _ s4)
theorem ZrP (a b:Zbk) (ha:sm Zn2 a):Ztb a b=some (tr (Zbk.Kind a=Zbk.Kind b∧Zbk.Place a=Zbk.Place b∧Zbk.Cell a=Zbk.Cell b∧Zbk.Net a=Zbk.Net b∧Zbk.Node a=Zbk.Node b∧Zbk.Name a=Zbk.Name b∧ZyA (Zbk.ZoZ a) (Zbk.ZoZ b))):=by
 unfold Ztb
 exact ZpF fun _=>ZpF fun _=>ZpF fun _=>ZpF fun _=>ZpF fun _=>ZpF fun _=>Zs4 (ZwZ _ _ (ZvB ha).2)
theorem ZzX (e:Zbk) (he:sm Zn2 e):(YA (Zbk.Kind e) 1 5=some (tr (1≤Zbk.Kind e∧Zbk.Kind e≤5)))∧∃ o,ZtR e=some o∧Ztb e o=some (tr (Zbk.Kind e<1∨5<Zbk.Kind e∨Blank e))∨(¬(1≤Zbk.Kind e∧Zbk.Kind e≤5)):=by
 refine ⟨ZrR _ _ _,?_⟩
 unfold ZtR
 by_cases k1:Zbk.Kind e=1
 ·rw [if_pos k1]
  refine ⟨_,.inl ⟨rfl,?_⟩⟩
  refine Zq1 (ZrP e _ he) ?_
  rw [show ZyA (Zbk.ZoZ e) (Zbk.ZoZ (Zbk.Kind e,Zbk.Place e,Zbk.Cell e,(0:Int),(0:Int),([]:List UInt8),(([]:List Int),([]:List Int),([]:List Int),([]:List Int),()),()))↔ZuZ (Zbk.ZoZ e) from Iff.rfl]
  unfold Blank
  simp only [k1]
  constructor
  ·rintro ⟨_,_,_,a,b,c,d⟩;exact .inr (.inr (.inl ⟨trivial,a,b,c,d⟩))
  ·intro h;grind
 rw [if_neg k1]
 by_cases k2:Zbk.Kind e=2
 ·rw [if_pos k2]
  refine ⟨_,.inl ⟨rfl,?_⟩⟩
  refine Zq1 (ZrP e _ he) ?_
  rw [show ZyA (Zbk.ZoZ e) (Zbk.ZoZ (Zbk.Kind e,Zbk.Place e,Zbk.Cell e,(0:Int),(0:Int),Zbk.Name e,(([]:List Int),([]:List Int),([]:List Int),([]:List Int),()),()))↔ZuZ (Zbk.ZoZ e) from Iff.rfl]
  unfold Blank
  simp only [k2]
  constructor
  ·rintro ⟨_,_,_,a,b,c,d⟩;exact .inr (.inr (.inr (.inl ⟨trivial,a,b,d⟩)))
  ·intro h;grind
 rw [if_neg k2]
 by_cases k4:Zbk.Kind e=4
 ·rw [if_pos k4]
  refine ⟨_,.inl ⟨rfl,?_⟩⟩
  refine Zq1 (ZrP e _ he) ?_
  rw [show ZyA (Zbk.ZoZ e) (Zbk.ZoZ (Zbk.Kind e,Zbk.Place e,(0:Int),Zbk.Net e,Zbk.Node e,([]:List UInt8),(([]:List Int),([]:List Int),([]:List Int),([]:List Int),()),()))↔ZuZ (Zbk.ZoZ e) from Iff.rfl]
  unfold Blank
  simp only [k4]
  constructor
  ·rintro ⟨_,_,a,_,_,c,d⟩;exact .inr (.inr (.inr (.inr (.inr (.inl ⟨trivial,a,c,d⟩)))))
  ·intro h;grind
 rw [if_neg k4]
 by_cases k5:Zbk.Kind e=5
 ·rw [if_pos k5]
  refine ⟨_,.inl ⟨rfl,?_⟩⟩
  refine Zq1 (ZrP e _ he) ?_
  rw [show ZyA (Zbk.ZoZ e) (Zbk.ZoZ (Zbk.Kind e,(0:Int),(0:Int),Zbk.Net e,(0:Int),([]:List UInt8),e.snd.snd.snd.snd.snd.snd))↔True from ⟨fun _=>trivial,fun _=>⟨rfl,rfl,rfl,rfl⟩⟩]
  unfold Blank
  simp only [k5]
  constructor
  ·rintro ⟨_,a,b,_,c,d,_⟩;exact .inr (.inr (.inr (.inr (.inr (.inr ⟨trivial,a,b,c,d⟩)))))
  ·intro h;grind
 rw [if_neg k5]
 by_cases k3:Zbk.Kind e=3
 ·refine ⟨_,.inl ⟨rfl,?_⟩⟩
  refine Zq1 (ZrP e _ he) ?_
  rw [show ZyA (Zbk.ZoZ e) (Zbk.ZoZ (Zbk.Kind e,(0:Int),(0:Int),(0:Int),(0:Int),([]:List UInt8),(([]:List Int),([]:List Int),([]:List Int),([]:List Int),()),()))↔ZuZ (Zbk.ZoZ e) from Iff.rfl]
  unfold Blank
  simp only [k3]
  constructor
  ·rintro ⟨_,a,b,c,d,f,g⟩;exact .inr (.inr (.inr (.inr (.inl ⟨trivial,a,b,c,d,f,g⟩))))
  ·intro h;grind
 ·exact ⟨e,.inr (by omega)⟩
/-
  Plain laws: edits: range, possibility, code.
-/
def Zr6 (b:Zv) (e:Zbk):Prop :=
 ((Zbk.Kind e=1∨Zbk.Kind e=2)→(0≤Zbk.Place e∧Zbk.Place e≤((places (Zv.Design b)).length:Int)-1)∧(0≤Zbk.Cell e∧Zbk.Cell e≤((ZaF.Cells (Zv.Library b)).length:Int)-1))∧
 (Zbk.Kind e=4→(0≤Zbk.Place e∧Zbk.Place e≤((places (Zv.Design b)).length:Int)-1)∧Zre (Zv.Design b) (Zbk.Net e)∧∃ w,(Zv.ZlA b)[(Zbk.Net e).toNat]?=some w∧(0≤Zbk.Node e∧Zbk.Node e≤((QH.Parent w).length:Int)-1))∧
 (Zbk.Kind e=5→Zre (Zv.Design b) (Zbk.Net e))
theorem ZtN {b:Zv} (h:ZqJ b) {n:Int} (hn:Zre (Zv.Design b) n):∃ w,(Zv.ZlA b)[n.toNat]?=some w∧atI (Zv.ZlA b) n=some w∧ZrY w ((sinks (Zv.Design b) n).length:Int):=by
 have hwn:=h.ok.2.1
 have hlt:n.toNat<(Zv.ZlA b).length:=by have:=hn.1;have:=hn.2;omega
 have hw:=List.getElem?_eq_getElem hlt
 refine ⟨_,hw,Zkf hn.1 hw,?_⟩
 have this:ZrY _ ((sinks (Zv.Design b) ((n.toNat:Nat):Int)).length:Int):=h.ok.2.2 n.toNat _ hw
 rwa [show ((n.toNat:Nat):Int)=n by have:=hn.1;omega] at this
theorem Zxb {b:Zv} (h:ZqJ b):(ZaF.Cells (Zv.Library b)).length≤1048576:=Zo9 (Zw1 (Zrd h.sm).1)
theorem Zzz {b:Zv} (h:ZqJ b) (e:Zbk) {w:QH} (hw:(Zv.ZlA b)[(Zbk.Net e).toNat]?=some w):Wq (((QH.Parent w).length:Int)-1)=((QH.Parent w).length:Int)-1:=by
 have:=h.ok.2.2 _ _ hw
 have h1:=this.1
 rw [XD (by omega) (by omega)]
theorem Zwy {b:Zv} (h:ZqJ b) (e:Zbk) (he:sm Zn2 e):ZrH e b=some (tr (Blank e∧Zr6 b e)):=by
 have hD:=h.ok.1
 have hf:=hD.few
 have hpl:=Zck hf
 have hc:=Zxb h
 have hsd:=(Zrd h.sm).2.1
 have e1:Wq (((places (Zv.Design b)).length:Int)-1)=((places (Zv.Design b)).length:Int)-1:=XD (by omega) (by omega)
 have e2:Wq (((ZaF.Cells (Zv.Library b)).length:Int)-1)=((ZaF.Cells (Zv.Library b)).length:Int)-1:=XD (by omega) (by omega)
 obtain ⟨hw,o,ho⟩:=ZzX e he
 unfold ZrH
 rw [hw,Bq]
 by_cases hk:1≤Zbk.Kind e∧Zbk.Kind e≤5
 ·rw [if_pos (ZcF hk)]
  rcases ho with ⟨ho1,ho2⟩ | ho
  ·rw [ho1,Bq,ho2,Bq]
   by_cases hB:Blank e
   ·rw [if_pos (ZcF (.inr (.inr hB))),Zpj _ hf,Bq,show ZrV (places (Zv.Design b))=some ((places (Zv.Design b)).length:Int) from rfl,Bq,e1,ZrR,Bq,
     show Zp7 (ZaF.Cells (Zv.Library b))=some ((ZaF.Cells (Zv.Library b)).length:Int) from rfl]
    simp only [Bq,e2]
    have net:=Zsu (Zv.Design b) (Zbk.Net e) hsd
    have pc:(if tr (0≤Zbk.Place e∧Zbk.Place e≤((places (Zv.Design b)).length:Int)-1)=true then (YA (Zbk.Cell e) 0 (((ZaF.Cells (Zv.Library b)).length:Int)-1)).bind fun y=>some y else some false) =
      some (tr ((0≤Zbk.Place e∧Zbk.Place e≤((places (Zv.Design b)).length:Int)-1)∧(0≤Zbk.Cell e∧Zbk.Cell e≤((ZaF.Cells (Zv.Library b)).length:Int)-1))) :=
     ZAA (Zs4 (ZrR _ _ _))
    by_cases k1:Zbk.Kind e=1
    ·rw [if_pos k1,if_pos k1]
     refine Zq1 pc ?_
     unfold Zr6;grind
    rw [if_neg k1]
    by_cases k2:Zbk.Kind e=2
    ·rw [if_pos k2]
     refine Zq1 pc ?_
     unfold Zr6;grind
    rw [if_neg k2]
    by_cases k4:Zbk.Kind e=4
    ·rw [if_pos k4]
     have mv:(if tr (0≤Zbk.Place e∧Zbk.Place e≤((places (Zv.Design b)).length:Int)-1)=true then (ZpJ (Zv.Design b) (Zbk.Net e)).bind fun y=>if y=true then
        (atI (Zv.ZlA b) (Zbk.Net e)).bind fun w=>(ZpM (QH.Parent w)).bind fun n=>(YA (Zbk.Node e) 0 (Wq (n-1))).bind fun z=>some z else some false else some false) =
       some (tr ((0≤Zbk.Place e∧Zbk.Place e≤((places (Zv.Design b)).length:Int)-1)∧Zre (Zv.Design b) (Zbk.Net e)∧∃ w,(Zv.ZlA b)[(Zbk.Net e).toNat]?=some w∧(0≤Zbk.Node e∧Zbk.Node e≤((QH.Parent w).length:Int)-1))):=by
      by_cases hp:0≤Zbk.Place e∧Zbk.Place e≤((places (Zv.Design b)).length:Int)-1
      ·rw [if_pos (ZcF hp)]
       refine Zq1 (ZpR net fun hn=>?_) (P:=Zre (Zv.Design b) (Zbk.Net e)∧∃ w,(Zv.ZlA b)[(Zbk.Net e).toNat]?=some w∧(0≤Zbk.Node e∧Zbk.Node e≤((QH.Parent w).length:Int)-1)) ⟨fun q=>⟨hp,q⟩,fun q=>q.2⟩
       obtain ⟨w,hw,ha,_⟩:=ZtN h hn
       rw [ha,Bq,Zrj,Bq,Zzz h e hw]
       refine Zq1 (Zs4 (ZrR _ _ _)) ⟨fun q=>⟨w,hw,q⟩,fun ⟨w',hw',q⟩=>?_⟩
       rw [hw] at hw'
       injection hw' with hw'
       subst hw';exact q
      ·rw [if_neg (fun q=>hp ((Zgv _).1 q)),Zag (fun q=>hp q.1)]
     refine Zq1 mv ?_
     unfold Zr6;grind
    rw [if_neg k4]
    by_cases k5:Zbk.Kind e=5
    ·rw [if_pos k5]
     refine Zq1 (Zs4 net) ?_
     unfold Zr6;grind
    ·rw [if_neg k5]
     refine (Zs6 (P:=Blank e∧Zr6 b e) ⟨fun _=>⟨hB,?_⟩,fun _=>rfl⟩)
     unfold Zr6;grind
   ·rw [if_neg (fun q=>by rcases (Zgv _).1 q with q | q | q<;>first | omega | exact hB q),Zag (fun q=>hB q.1)]
  ·exact absurd hk ho
 ·rw [if_neg (fun q=>hk ((Zgv _).1 q)),Zag (fun q=>?_)]
  have:=q.1
  unfold Blank at this
  omega
/-
  Plain laws: edits: what is possible, the code of an edit, places after one.
-/
/-
  Plain laws: the code of an edit of any block.
-/
/-
  Plain laws: ports stand behind the instances.
-/
/-
  Plain laws: places, one by one; a place put on another net; an instance more, an instance less.
-/
def ZrQ (x:Zz) (j:Nat) (n:Int):Zz:=(Zz.Name x,Zz.Cell x,List.set (Zz.Zbh x) j n,())
def setPort (q:Zah) (n:Int):Zah:=(Zah.Name q,Zah.Dir q,n,())
def conn (d:Zp) (a b:Int) (n:Int):Zp :=
 if a<0 then (Zp.Instances d,Zp.Zbh d,match (Zp.Vk d)[b.toNat]? with
  | some q=>(Zp.Vk d).set b.toNat (setPort q n)
  | none=>Zp.Vk d,())
 else (match (Zp.Instances d)[a.toNat]? with
  | some x=>(Zp.Instances d).set a.toNat (ZrQ x b.toNat n)
  | none=>Zp.Instances d,Zp.Zbh d,Zp.Vk d,())
/-
  Plain laws: the wires' sinks out of the places' nodes.
-/
def nth (pl:List Pl) (net:Int) (k:Nat):Nat:=(cat (Zg9 net) 0 (pl.take k)).length
def Zpz (b:Zv) (k:Nat):Int:=match (places (Zv.Design b))[k]? with
 | some p=>if p.2.2.2.1=true then 0 else match (Zv.ZlA b)[p.2.2.1.toNat]? with
  | some w=>((QH.ZnH w)[nth (places (Zv.Design b)) p.2.2.1 k]?).getD 0
  | none=>0
 | none=>0
def Zrx (w:QH) (l:List Int):QH:=(QH.Parent w,QH.Res w,QH.Cap w,l,())
def wired (pl:List Pl) (ws:List QH) (nd:Nat→Int):List QH:=cat (fun v w=>[Zrx w ((cat (Zg9 (v:Int)) 0 pl).map (fun k=>nd k.toNat))]) 0 ws
/-
  Plain laws: maps by their keys.
-/
/-
  Plain laws: nodes by keys against nodes by places; kept when a place is put on another net, when an instance is added or removed.
-/
/-
  Plain laws: the map of nodes, place by place; lists of nodes.
-/
/-
  Plain laws: what edits make of designs, of nodes by place.
-/
theorem ZpC {d:Zp} {a b n:Int}:(Zp.Instances (conn d a b n)).length=(Zp.Instances d).length:=by
 unfold conn
 split
 ·rfl
 ·show (match (Zp.Instances d)[a.toNat]? with | some x=>(Zp.Instances d).set a.toNat (ZrQ x b.toNat n) | none=>Zp.Instances d).length=_
  split
  ·rw [List.length_set]
  ·rfl
theorem ZuB {d:Zp} {a b n:Int}:(Zp.Vk (conn d a b n)).length=(Zp.Vk d).length:=by
 unfold conn
 split
 ·show (match (Zp.Vk d)[b.toNat]? with | some x=>(Zp.Vk d).set b.toNat (setPort x n) | none=>Zp.Vk d).length=_
  split
  ·rw [List.length_set]
  ·rfl
 ·rfl
theorem Zs5 {d:Zp} {a b n:Int} {i:Nat} {y:Zz} (hy:(Zp.Instances (conn d a b n))[i]?=some y):∃ x,(Zp.Instances d)[i]?=some x∧Zz.Name y=Zz.Name x∧Zz.Cell y=Zz.Cell x∧(Zz.Zbh y).length=(Zz.Zbh x).length∧((i:Int)≠a→y=x)∧∀ m∈Zz.Zbh y,m∈Zz.Zbh x∨m=n:=by
 unfold conn at hy
 split at hy
 ·exact ⟨y,hy,rfl,rfl,rfl,fun _=>rfl,fun m hm=>.inl hm⟩
 ·rename_i h
  have hy:(match (Zp.Instances d)[a.toNat]? with | some x=>(Zp.Instances d).set a.toNat (ZrQ x b.toNat n) | none=>Zp.Instances d)[i]?=some y:=hy
  split at hy
  ·rename_i x hx
   rw [List.getElem?_set] at hy
   split at hy
   ·rename_i e
    split at hy
    ·injection hy with hy
     subst hy
     refine ⟨x,by rw [←e];exact hx,rfl,rfl,List.length_set,fun q=>absurd (by omega) q,fun m hm=>?_⟩
     rcases List.mem_or_eq_of_mem_set hm with hm | hm
     ·exact .inl hm
     ·exact .inr hm
    ·cases hy
   ·exact ⟨y,hy,rfl,rfl,rfl,fun _=>rfl,fun m hm=>.inl hm⟩
  ·exact ⟨y,hy,rfl,rfl,rfl,fun _=>rfl,fun m hm=>.inl hm⟩
theorem Few.conn {d:Zp} (h:Few d) (a b n:Int):Few (conn d a b n):=by
 refine ⟨by rw [ZpC];exact h.insts,by rw [ZuB];exact h.ports,fun y hy=>?_⟩
 obtain ⟨i,hi⟩:=List.getElem?_of_mem hy
 obtain ⟨x,hx,_,_,hl,_⟩:=Zs5 hi
 rw [hl]
 exact h.nets x (List.mem_of_getElem? hx)
def mvD (b:Zv) (p:Pl) (n:Int):Zp:=conn (Zv.Design b) p.1 p.2.1 n
def mvN (b:Zv) (k:Nat) (v:Int) (j:Nat):Int:=if j=k then v else Zpz b j
def moved (b:Zv) (k:Nat) (p:Pl) (n v:Int):Zv:=(Zv.Library b,mvD b p n,wired (places (mvD b p n)) (Zv.ZlA b) (mvN b k v),())
def Zy5 (b:Zv) (n:Int) (w:QH):Zv:=(Zv.Library b,Zv.Design b,(Zv.ZlA b).set n.toNat w,())
/-
  Plain laws: clones are what they are made of.
-/
theorem Zc0 {α:Type} {l:List α} {k:Nat} {x:α} (hx:l[k]?=some x):l.set k x=l:=by
 apply List.ext_getElem?
 intro j
 rw [List.getElem?_set]
 split
 ·rename_i e;subst e
  rw [if_pos (List.getElem?_eq_some_iff.1 hx).1,hx]
 ·rfl
theorem Zsd (l:List Int) (h:l.length≤1048576):Zpk l=some l:=by
 unfold Zpk
 rw [ZB (by rw [List.length_nil];omega)];rfl
theorem Zr2 (w:QH) (hw:sm ZjY w):Zrt w=some w:=by
 obtain ⟨a1,a2,a3,a4⟩:=Zv3 hw
 unfold Zrt
 rw [Zsd _ (Zo9 a1),Bq,Zsd _ (Zo9 a2),Bq,Zsd _ (Zo9 a3),Bq,Zsd _ (Zo9 a4),Bq]
theorem Zvm (d:Zp) (hd:sm ZdN d):ZqL d=some d:=by
 obtain ⟨s1,s2,s3⟩:=Zrk hd
 have l1:=Zo9 s1
 have l2:=Zo9 s2
 have l3:=Zo9 s3
 unfold ZqL ZpP ZqR Zqg
 rw [ZB (by rw [List.length_nil];omega),Bq,ZB (by rw [List.length_nil];omega),Bq,ZB (by rw [List.length_nil];omega),Bq]
 simp only [List.nil_append]
 refine ZgW (l:=Zp.Instances d) (fun k=>((k:Int),(Zp.Instances d,(k:Int)),())) (fun k x hx hk=>?_) ?_
 ·have hx2:=Zsd (Zz.Zbh x) (Zo9 (ZuV (ZqC s1 hx)).2)
  simp only [Zqd,show (k:Int)<((Zp.Instances d).length:Int) by omega,if_true,VU,hx,Bq,Int.le_refl,hx2,ZB trivial,Zkd (show k≤1048576 by omega),Int.toNat_natCast]
  rw [show List.set (Zp.Instances d) k (Zz.Name x,Zz.Cell x,Zz.Zbh x,())=Zp.Instances d from Zc0 hx]
  rfl
 ·simp only [Zqd,Int.lt_irrefl,if_false,ZB trivial]
theorem Zuc (l:List Jy) (hl:sm (.sl ZdQ) l):ZrO l=some l:=by
 have h1:=Zo9 hl
 unfold ZrO
 have:=ZgW (l:=l) (fun k=>(l.take k,(k:Int),())) (step:=fun v=>ZqZ l v.1 v.2.1) (good:=l) (fun k x hx hk=>by
  have hs:sm ZdQ x:=ZqC hl hx
  have e1:=Zsd (Jy.ZoG x) (Zo9 (t:=.int .i64) hs.1)
  have e2:=Zsd (Jy.Loads x) (Zo9 (t:=.int .i64) hs.2.1)
  have e3:=Zsd (Jy.Values x) (Zo9 (t:=.int .i64) hs.2.2.1)
  have hg:((l.take k).length+[(Jy.ZoG x,Jy.Loads x,Jy.Values x,())].length)*72≤140737488355328:=by rw [List.length_take,List.length_singleton];omega
  simp only [ZqZ,show (k:Int)<(l.length:Int) by omega,if_true,VU,hx,Bq,e1,e2,e3,ZB hg,Zkd (show k≤1048576 by omega)]
  rw [JI hx]) (by
  simp only [ZqZ,Int.lt_irrefl,if_false,List.take_length])
 simpa using this
theorem Zvp (a:ZaF) (ha:sm Zc3 a):ZqN a=some a:=by
 have hc:=Zw1 ha
 have h1:=Zo9 hc
 unfold ZqN
 have:=ZgW (l:=ZaF.Cells a) (fun k=>((k:Int),(ZaF.Cells a).take k,())) (step:=fun v=>ZpU a v.1 v.2.1) (good:=a) (fun k x hx hk=>by
  have hs:sm Zin x:=ZqC hc hx
  have p1:sm (.sl Zl9) (QG.ZoY x):=hs.2.2.1
  have p2:sm (.sl Zmv) (QG.ZoW x):=hs.2.2.2.1
  have p3:sm (.sl (.int .i64)) (QG.Truth x):=hs.2.2.2.2.1
  have l1:=Zo9 p1
  have l2:=Zo9 p2
  have l3:=Zo9 p3
  simp only [ZpU,show (k:Int)<((ZaF.Cells a).length:Int) by omega,if_true,VU,hx,Bq]
  unfold Zqq Zqp
  rw [ZB (by rw [List.length_nil];omega),Bq,Zsd _ l3,Bq,ZB (by rw [List.length_nil];omega),Bq]
  simp only [List.nil_append]
  have hg:∀ y:QG,(((ZaF.Cells a).take k).length+[y].length)*112≤140737488355328:=fun y=>by rw [List.length_take,List.length_singleton];omega
  refine ZgW (l:=QG.ZoW x) (fun j=>((j:Int),(QG.ZoW x,(j:Int)),())) (fun j y hy hj=>?_) ?_
  ·obtain ⟨q1,q2⟩:=Zz1 (ZqC p2 hy)
   simp only [Zqe,show (j:Int)<((QG.ZoW x).length:Int) by omega,if_true,VU,hy,Bq,Int.le_refl,Zuc _ q1,Zuc _ q2,ZB trivial,Zkd (show j≤1048576 by omega),Int.toNat_natCast]
   rw [show List.set (QG.ZoW x) j (ZfN.Kind y,ZfN.From y,ZfN.To y,ZfN.ZoE y,ZfN.Delay y,ZfN.Znd y,())=QG.ZoW x from Zc0 hy]
   rfl
  ·simp only [Zqe,Int.lt_irrefl,if_false,ZB trivial,ZB (hg _),Zkd (show k≤1048576 by omega)]
   rw [JI hx]) (by
  simp only [ZpU,Int.lt_irrefl,if_false,List.take_length])
 simpa using this
theorem Zp4 (b:Zv) (hb:sm ZjX b):ZrM b=some b:=by
 obtain ⟨b1,b2,b3⟩:=Zrd hb
 have h1:=Zo9 b3
 unfold ZrM
 rw [Zvp _ b1,Bq,Zvm _ b2,Bq]
 have:=ZgW (l:=Zv.ZlA b) (fun k=>((k:Int),(Zv.ZlA b).take k,())) (step:=fun v=>ZqW b (Zv.Library b) (Zv.Design b) v.1 v.2.1) (good:=b) (fun k x hx hk=>by
  have hg:(((Zv.ZlA b).take k).length+[x].length)*96≤140737488355328:=by rw [List.length_take,List.length_singleton];omega
  simp only [ZqW,show (k:Int)<((Zv.ZlA b).length:Int) by omega,if_true,VU,hx,Bq,Zr2 x (ZqC b3 hx),ZB hg,Zkd (show k≤1048576 by omega)]
  rw [JI hx]) (by
  simp only [ZqW,Int.lt_irrefl,if_false,List.take_length])
 simpa using this
/-
  Plain laws: the nodes of all sinks, by key (program) and by place (reference).
-/
/-
  Plain laws: the reference's nodes by place.
-/
/-
  Plain laws: sinks put in anew, a place put on another net, a buffer taken away.
-/
/-
  Plain laws: a buffer taken away; inverse edits.
-/
/-
  Plain laws: inverse edits.
-/
theorem Zv4:sm .str ([]:List UInt8):=by show ((0:Nat):Int)≤_;omega
theorem Zxy {a b c d e:Int} {s:List UInt8} {w:QH} (hs:sm .str s) (hw:sm ZjY w):sm Zn2 (a,b,c,d,e,s,w,()):=⟨trivial,trivial,trivial,trivial,trivial,hs,hw,trivial⟩
/-
  Plain laws: designs stay valid when a place is put on another net, when a buffer is added or taken away.
-/
theorem ZrY.put {w:QH} {s:Int} (h:ZrY w s) {l:List Int} (hl:ZuY l 0 (((QH.Parent w).length:Int)-1)):ZrY (Zrx w l) (l.length:Int) :=
 ⟨h.1,h.2.1,h.2.2.1,rfl,h.2.2.2.2.1,h.2.2.2.2.2.1,h.2.2.2.2.2.2.1,hl⟩
theorem Zc6.take {l:List (List UInt8)} (h:Zc6 l l.length) (m:Nat):Zc6 (l.take m) (l.take m).length:=by
 intro j t hj ht
 rw [List.length_take] at hj
 rw [List.getElem?_take,if_pos (by omega)] at ht
 obtain ⟨a,b⟩:=h j t (by omega) ht
 refine ⟨a,?_⟩
 rw [List.take_take,Nat.min_eq_left (by omega)]
 exact b
/-
  Plain laws: the blocks that edits make are valid.
-/
theorem Zxz {l:List Int} (h:l.length≤1048576):sm (.sl (.int .i64)) l:=⟨by omega,fun _ _=>trivial⟩
theorem ZuG {a b c d:List Int} (h1:a.length≤1048576) (h2:b.length≤1048576) (h3:c.length≤1048576) (h4:d.length≤1048576):sm ZjY (a,b,c,d,()):=⟨Zxz h1,Zxz h2,Zxz h3,Zxz h4,trivial⟩
theorem Ztr {a:List Zz} {b:List (List UInt8)} {c:List Zah} (h1:sm (.sl ZdO) a) (h2:sm (.sl .str) b) (h3:sm (.sl ZkZ) c):sm ZdN (a,b,c,()):=⟨h1,h2,h3,trivial⟩
theorem Zs0 {a:ZaF} {b:Zp} {c:List QH} (h1:sm Zc3 a) (h2:sm ZdN b) (h3:sm (.sl ZjY) c):sm ZjX (a,b,c,()):=⟨h1,h2,h3,trivial⟩
theorem Zyu {b:Zv} (h:ZqJ b) {n:Int} (hn:Zre (Zv.Design b) n) {w:QH} (hw:ZrY w ((sinks (Zv.Design b) n).length:Int)) (hs:sm ZjY w):ZqJ (Zy5 b n w):=by
 obtain ⟨b1,b2,b3⟩:=Zrd h.sm
 obtain ⟨hD,hwn,hW⟩:=h.ok
 refine ⟨⟨hD,by show (List.set _ _ _).length=_;rw [List.length_set];exact hwn,?_⟩,Zs0 b1 b2 ⟨by rw [List.length_set];exact b3.1,fun y hy=>?_⟩⟩
 ·intro k y hk
  have hk:((Zv.ZlA b).set n.toNat w)[k]?=some y:=hk
  rw [List.getElem?_set] at hk
  split at hk
  ·rename_i e
   split at hk
   ·injection hk with hk
    subst hk
    rw [←e]
    show ZrY w ((sinks (Zv.Design b) ((n.toNat:Nat):Int)).length:Int)
    rw [show ((n.toNat:Nat):Int)=n by have:=hn.1;omega]
    exact hw
   ·cases hk
  ·exact hW k y hk
 ·rcases List.mem_or_eq_of_mem_set hy with hy | hy
  ·exact b3.2 y hy
  ·rw [hy];exact hs
/-
  Plain laws: a block with a buffer less is valid.
-/
/-
  Plain laws: the reference's own copies; places connected, sinks attached (reference); edits applied.
-/
/-
  Plain laws: a buffer put in, a buffer taken away: the program and the reference; edits applied.
-/
/-
  Plain laws: the reference removes a buffer; an edit applied, by program and reference.
-/
end Go.Proofs.YtnnbgbgapogckaaGreatDoor
