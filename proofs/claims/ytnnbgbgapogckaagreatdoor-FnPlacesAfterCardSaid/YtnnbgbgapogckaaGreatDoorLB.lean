/-
  Plain laws: edits: what an edit may mention, and when it is possible.
-/
import Derived.Test.YtnnbgbgapogckaaGreatDoorLA
namespace Go.Proofs.YtnnbgbgapogckaaGreatDoor
set_option linter.unusedVariables false
set_option linter.unusedSimpArgs false
open Go Go.Sx
theorem ZvB {e:Zbk} (h:sm Zn2 e):sm .str (Zbk.Name e)∧sm ZjY (Zbk.ZoZ e):=⟨h.2.2.2.2.2.1,h.2.2.2.2.2.2.1⟩
def ZuZ (w:QH):Prop:=QH.Parent w=[]∧QH.Res w=[]∧QH.Cap w=[]∧QH.ZnH w=[]
theorem Zzy (w:QH) (hw:sm ZjY w):(some (Decidable.decide (Wq (Wq (Wq ((↑(List.length (QH.Parent w)):Int)+(↑(List.length (QH.Res w)):Int))+(↑(List.length (QH.Cap w)):Int))+(↑(List.length (QH.ZnH w)):Int))=(0:Int))):Option Bool)=some (tr (ZuZ w)):=by
 obtain ⟨a1,a2,a3,a4⟩:=Zv3 hw
 have s1:=Zo9 a1
 have s2:=Zo9 a2
 have s3:=Zo9 a3
 have s4:=Zo9 a4
 rw [XD (n:=((QH.Parent w).length:Int)+((QH.Res w).length:Int)) (by omega) (by omega),XD (n:=((QH.Parent w).length:Int)+((QH.Res w).length:Int)+((QH.Cap w).length:Int)) (by omega) (by omega),XD (by omega) (by omega)]
 refine Zs6 ?_
 rw [decide_eq_true_eq]
 unfold ZuZ
 rw [←List.length_eq_zero_iff,←List.length_eq_zero_iff,←List.length_eq_zero_iff,←List.length_eq_zero_iff]
 omega
def Blank (e:Zbk):Prop :=
 (Zbk.Kind e=1∧Zbk.Net e=0∧Zbk.Node e=0∧Zbk.Name e=[]∧ZuZ (Zbk.ZoZ e))∨
 (Zbk.Kind e=2∧Zbk.Net e=0∧Zbk.Node e=0∧ZuZ (Zbk.ZoZ e))∨
 (Zbk.Kind e=3∧Zbk.Place e=0∧Zbk.Cell e=0∧Zbk.Net e=0∧Zbk.Node e=0∧Zbk.Name e=[]∧ZuZ (Zbk.ZoZ e))∨
 (Zbk.Kind e=4∧Zbk.Cell e=0∧Zbk.Name e=[]∧ZuZ (Zbk.ZoZ e))∨
 (Zbk.Kind e=5∧Zbk.Place e=0∧Zbk.Cell e=0∧Zbk.Node e=0∧Zbk.Name e=[])
theorem ZuW (e:Zbk) (he:sm Zn2 e):Zt0 e=some (tr (Blank e)):=by
 have hn:=Zzy (Zbk.ZoZ e) (ZvB he).2
 unfold Zt0
 rw [hn]
 by_cases k1:Zbk.Kind e=1
 ·rw [if_pos k1]
  refine Zq1 (ZpF fun _=>ZpF fun _=>ZpF fun _=>rfl) ?_
  unfold Blank;grind
 rw [if_neg k1]
 by_cases k2:Zbk.Kind e=2
 ·rw [if_pos k2]
  refine Zq1 (ZpF fun _=>ZpF fun _=>rfl) ?_
  unfold Blank;grind
 rw [if_neg k2]
 by_cases k3:Zbk.Kind e=3
 ·rw [if_pos k3]
  refine Zq1 (ZpF fun _=>ZpF fun _=>ZpF fun _=>ZpF fun _=>ZpF fun _=>rfl) ?_
  unfold Blank;grind
 rw [if_neg k3]
 by_cases k4:Zbk.Kind e=4
 ·rw [if_pos k4]
  refine Zq1 (ZpF fun _=>ZpF fun _=>rfl) ?_
  unfold Blank;grind
 rw [if_neg k4]
 by_cases k5:Zbk.Kind e=5
 ·rw [if_pos k5]
  refine Zq1 (ZpF fun _=>ZpF fun _=>ZpF fun _=>Zs6 decide_eq_true_iff) ?_
  unfold Blank;grind
 ·rw [if_neg k5]
  refine ZwC ?_
  unfold Blank;grind
theorem Zsk (a b:List Int) (ha:a.length≤1048576):ZpL a b=some (tr (a=b)):=by
 unfold ZpL
 by_cases hl:(a.length:Int)=(b.length:Int)
 ·rw [if_pos hl,Zrc (l:=a) (show Len a by unfold Len;omega) (fun k x=>b[k]?=some x) (bad:=false) (good:=true)
   (fun k x hx hk _=>by
    have hy:b[k]?=some b[k]:=List.getElem?_eq_getElem (by omega)
    simp only [Zqr,show (k:Int)<(a.length:Int) from by omega,if_true,VU,hx,hy,Bq,Option.some.injEq]
    constructor
    ·intro hh;rw [if_pos hh.symm]
    ·intro hh;rw [if_neg (fun q=>hh q.symm)])
   (fun _=>by simp only [Zqr,Int.lt_irrefl,if_false]),Zxw]
  congr 1
  refine ZqI ⟨fun h=>?_,fun h=>by subst h;exact fun k x hx=>hx⟩
  apply List.ext_getElem?
  intro k
  by_cases hk:k<a.length
  ·rw [h k a[k] (List.getElem?_eq_getElem hk),List.getElem?_eq_getElem hk]
  ·rw [List.getElem?_eq_none (by omega),List.getElem?_eq_none (by omega)]
 ·rw [if_neg hl,Zag (fun h=>hl (by rw [h]))]
def ZyA (a b:QH):Prop:=QH.Parent a=QH.Parent b∧QH.Res a=QH.Res b∧QH.Cap a=QH.Cap b∧QH.ZnH a=QH.ZnH b
theorem ZwZ (a b:QH) (ha:sm ZjY a):ZtU a b=some (tr (ZyA a b)):=by
 obtain ⟨a1,a2,a3,a4⟩:=Zv3 ha
 have s1:=Zo9 a1
 have s2:=Zo9 a2
 have s3:=Zo9 a3
 have s4:=Zo9 a4
 unfold ZtU
 exact ZpR (Zsk _ _ s1) fun _=>ZpR (Zsk _ _ s2) fun _=>ZpR (Zsk _ _ s3) fun _=>Zs4 (Zsk _ _ s4)
theorem ZrP (a b:Zbk) (ha:sm Zn2 a):Ztb a b=some (tr (Zbk.Kind a=Zbk.Kind b∧Zbk.Place a=Zbk.Place b∧Zbk.Cell a=Zbk.Cell b∧Zbk.Net a=Zbk.Net b∧Zbk.Node a=Zbk.Node b∧Zbk.Name a=Zbk.Name b∧ZyA (Zbk.ZoZ a) (Zbk.ZoZ b))):=by
 unfold Ztb
 exact ZpF fun _=>ZpF fun _=>ZpF fun _=>ZpF fun _=>ZpF fun _=>ZpF fun _=>Zs4 (ZwZ _ _ (ZvB ha).2)
theorem ZzX (e:Zbk) (he:sm Zn2 e):(YA (Zbk.Kind e) 1 5=some (tr (1≤Zbk.Kind e∧Zbk.Kind e≤5)))∧∃ o,ZtR e=some o∧Ztb e o=some (tr (Zbk.Kind e<1∨5<Zbk.Kind e∨Blank e))∨(¬(1≤Zbk.Kind e∧Zbk.Kind e≤5)):=by
 refine ⟨ZrR _ _ _,?_⟩
 unfold ZtR
 by_cases k1:Zbk.Kind e=1
 ·rw [if_pos k1]
  refine ⟨_,.inl ⟨rfl,?_⟩⟩
  refine Zq1 (ZrP e _ he) ?_
  rw [show ZyA (Zbk.ZoZ e) (Zbk.ZoZ (Zbk.Kind e,Zbk.Place e,Zbk.Cell e,(0:Int),(0:Int),([]:List UInt8),(([]:List Int),([]:List Int),([]:List Int),([]:List Int),()),()))↔ZuZ (Zbk.ZoZ e) from Iff.rfl]
  unfold Blank
  simp only [k1]
  constructor
  ·rintro ⟨_,_,_,a,b,c,d⟩;exact .inr (.inr (.inl ⟨trivial,a,b,c,d⟩))
  ·intro h;grind
 rw [if_neg k1]
 by_cases k2:Zbk.Kind e=2
 ·rw [if_pos k2]
  refine ⟨_,.inl ⟨rfl,?_⟩⟩
  refine Zq1 (ZrP e _ he) ?_
  rw [show ZyA (Zbk.ZoZ e) (Zbk.ZoZ (Zbk.Kind e,Zbk.Place e,Zbk.Cell e,(0:Int),(0:Int),Zbk.Name e,(([]:List Int),([]:List Int),([]:List Int),([]:List Int),()),()))↔ZuZ (Zbk.ZoZ e) from Iff.rfl]
  unfold Blank
  simp only [k2]
  constructor
  ·rintro ⟨_,_,_,a,b,c,d⟩;exact .inr (.inr (.inr (.inl ⟨trivial,a,b,d⟩)))
  ·intro h;grind
 rw [if_neg k2]
 by_cases k4:Zbk.Kind e=4
 ·rw [if_pos k4]
  refine ⟨_,.inl ⟨rfl,?_⟩⟩
  refine Zq1 (ZrP e _ he) ?_
  rw [show ZyA (Zbk.ZoZ e) (Zbk.ZoZ (Zbk.Kind e,Zbk.Place e,(0:Int),Zbk.Net e,Zbk.Node e,([]:List UInt8),(([]:List Int),([]:List Int),([]:List Int),([]:List Int),()),()))↔ZuZ (Zbk.ZoZ e) from Iff.rfl]
  unfold Blank
  simp only [k4]
  constructor
  ·rintro ⟨_,_,a,_,_,c,d⟩;exact .inr (.inr (.inr (.inr (.inr (.inl ⟨trivial,a,c,d⟩)))))
  ·intro h;grind
 rw [if_neg k4]
 by_cases k5:Zbk.Kind e=5
 ·rw [if_pos k5]
  refine ⟨_,.inl ⟨rfl,?_⟩⟩
  refine Zq1 (ZrP e _ he) ?_
  rw [show ZyA (Zbk.ZoZ e) (Zbk.ZoZ (Zbk.Kind e,(0:Int),(0:Int),Zbk.Net e,(0:Int),([]:List UInt8),e.snd.snd.snd.snd.snd.snd))↔True from ⟨fun _=>trivial,fun _=>⟨rfl,rfl,rfl,rfl⟩⟩]
  unfold Blank
  simp only [k5]
  constructor
  ·rintro ⟨_,a,b,_,c,d,_⟩;exact .inr (.inr (.inr (.inr (.inr (.inr ⟨trivial,a,b,c,d⟩)))))
  ·intro h;grind
 rw [if_neg k5]
 by_cases k3:Zbk.Kind e=3
 ·refine ⟨_,.inl ⟨rfl,?_⟩⟩
  refine Zq1 (ZrP e _ he) ?_
  rw [show ZyA (Zbk.ZoZ e) (Zbk.ZoZ (Zbk.Kind e,(0:Int),(0:Int),(0:Int),(0:Int),([]:List UInt8),(([]:List Int),([]:List Int),([]:List Int),([]:List Int),()),()))↔ZuZ (Zbk.ZoZ e) from Iff.rfl]
  unfold Blank
  simp only [k3]
  constructor
  ·rintro ⟨_,a,b,c,d,f,g⟩;exact .inr (.inr (.inr (.inr (.inl ⟨trivial,a,b,c,d,f,g⟩))))
  ·intro h;grind
 ·exact ⟨e,.inr (by omega)⟩
/-
  Plain laws: edits: range, possibility, code.
-/
def Zr6 (b:Zv) (e:Zbk):Prop :=
 ((Zbk.Kind e=1∨Zbk.Kind e=2)→(0≤Zbk.Place e∧Zbk.Place e≤((places (Zv.Design b)).length:Int)-1)∧(0≤Zbk.Cell e∧Zbk.Cell e≤((ZaF.Cells (Zv.Library b)).length:Int)-1))∧
 (Zbk.Kind e=4→(0≤Zbk.Place e∧Zbk.Place e≤((places (Zv.Design b)).length:Int)-1)∧Zre (Zv.Design b) (Zbk.Net e)∧∃ w,(Zv.ZlA b)[(Zbk.Net e).toNat]?=some w∧(0≤Zbk.Node e∧Zbk.Node e≤((QH.Parent w).length:Int)-1))∧
 (Zbk.Kind e=5→Zre (Zv.Design b) (Zbk.Net e))
theorem ZtN {b:Zv} (h:ZqJ b) {n:Int} (hn:Zre (Zv.Design b) n):∃ w,(Zv.ZlA b)[n.toNat]?=some w∧atI (Zv.ZlA b) n=some w∧ZrY w ((sinks (Zv.Design b) n).length:Int):=by
 have hwn:=h.ok.2.1
 have hlt:n.toNat<(Zv.ZlA b).length:=by have:=hn.1;have:=hn.2;omega
 have hw:=List.getElem?_eq_getElem hlt
 refine ⟨_,hw,Zkf hn.1 hw,?_⟩
 have this:ZrY _ ((sinks (Zv.Design b) ((n.toNat:Nat):Int)).length:Int):=h.ok.2.2 n.toNat _ hw
 rwa [show ((n.toNat:Nat):Int)=n by have:=hn.1;omega] at this
theorem Zxb {b:Zv} (h:ZqJ b):(ZaF.Cells (Zv.Library b)).length≤1048576:=Zo9 (Zw1 (Zrd h.sm).1)
theorem Zzz {b:Zv} (h:ZqJ b) (e:Zbk) {w:QH} (hw:(Zv.ZlA b)[(Zbk.Net e).toNat]?=some w):Wq (((QH.Parent w).length:Int)-1)=((QH.Parent w).length:Int)-1:=by
 have:=h.ok.2.2 _ _ hw
 have h1:=this.1
 rw [XD (by omega) (by omega)]
theorem ZuX {b:Zv} (h:ZqJ b) (e:Zbk) (he:sm Zn2 e):Zt1 b e=some (tr (Zr6 b e)):=by
 have hD:=h.ok.1
 have hf:=hD.few
 have hpl:=Zck hf
 have hc:=Zxb h
 have hwn:=h.ok.2.1
 have h30:=hD.2.1.2.1
 have e1:Wq (((places (Zv.Design b)).length:Int)-1)=((places (Zv.Design b)).length:Int)-1:=XD (by omega) (by omega)
 have e2:Wq (((ZaF.Cells (Zv.Library b)).length:Int)-1)=((ZaF.Cells (Zv.Library b)).length:Int)-1:=XD (by omega) (by omega)
 have e3:Wq (((Zv.ZlA b).length:Int)-1)=((Zp.Zbh (Zv.Design b)).length:Int)-1:=by rw [XD (by omega) (by omega)];omega
 have net:(Yd (Zbk.Net e) 0 (((Zp.Zbh (Zv.Design b)).length:Int)-1))=some (tr (Zre (Zv.Design b) (Zbk.Net e))):=ZrJ _ _ _
 unfold Zt1
 rw [JF _ hf,Bq,e1,e2,e3]
 have pc:((Yd (Zbk.Place e) 0 (((places (Zv.Design b)).length:Int)-1)).bind fun x=>if x=true then (Yd (Zbk.Cell e) 0 (((ZaF.Cells (Zv.Library b)).length:Int)-1)).bind fun y=>some y else some false) =
   some (tr ((0≤Zbk.Place e∧Zbk.Place e≤((places (Zv.Design b)).length:Int)-1)∧(0≤Zbk.Cell e∧Zbk.Cell e≤((ZaF.Cells (Zv.Library b)).length:Int)-1))) :=
  ZpR (ZrJ _ _ _) fun _=>Zs4 (ZrJ _ _ _)
 have mv:((Yd (Zbk.Place e) 0 (((places (Zv.Design b)).length:Int)-1)).bind fun x=>if x=true then (Yd (Zbk.Net e) 0 (((Zp.Zbh (Zv.Design b)).length:Int)-1)).bind fun y=>if y=true then
    (atI (Zv.ZlA b) (Zbk.Net e)).bind fun w=>(Yd (Zbk.Node e) 0 (Wq (((QH.Parent w).length:Int)-1))).bind fun z=>some z else some false else some false) =
   some (tr ((0≤Zbk.Place e∧Zbk.Place e≤((places (Zv.Design b)).length:Int)-1)∧Zre (Zv.Design b) (Zbk.Net e)∧∃ w,(Zv.ZlA b)[(Zbk.Net e).toNat]?=some w∧(0≤Zbk.Node e∧Zbk.Node e≤((QH.Parent w).length:Int)-1))):=by
  refine ZpR (ZrJ _ _ _) fun _=>ZpR net fun hn=>?_
  obtain ⟨w,hw,ha,_⟩:=ZtN h hn
  rw [ha,Bq,Zzz h e hw]
  refine Zq1 (Zs4 (ZrJ _ _ _)) ⟨fun q=>⟨w,hw,q⟩,fun ⟨w',hw',q⟩=>?_⟩
  rw [hw] at hw'
  injection hw' with hw'
  subst hw';exact q
 by_cases k1:Zbk.Kind e=1
 ·rw [if_pos k1,if_pos k1]
  refine Zq1 pc ?_
  unfold Zr6;grind
 rw [if_neg k1]
 by_cases k2:Zbk.Kind e=2
 ·rw [if_pos k2]
  refine Zq1 pc ?_
  unfold Zr6;grind
 rw [if_neg k2]
 by_cases k4:Zbk.Kind e=4
 ·rw [if_pos k4]
  refine Zq1 mv ?_
  unfold Zr6;grind
 rw [if_neg k4]
 by_cases k5:Zbk.Kind e=5
 ·rw [if_pos k5]
  refine Zq1 (Zs4 net) ?_
  unfold Zr6;grind
 ·rw [if_neg k5]
  refine (Zs6 (P:=Zr6 b e) ⟨fun _=>?_,fun _=>rfl⟩)
  unfold Zr6;grind
theorem Zwy {b:Zv} (h:ZqJ b) (e:Zbk) (he:sm Zn2 e):ZrH e b=some (tr (Blank e∧Zr6 b e)):=by
 have hD:=h.ok.1
 have hf:=hD.few
 have hpl:=Zck hf
 have hc:=Zxb h
 have hsd:=(Zrd h.sm).2.1
 have e1:Wq (((places (Zv.Design b)).length:Int)-1)=((places (Zv.Design b)).length:Int)-1:=XD (by omega) (by omega)
 have e2:Wq (((ZaF.Cells (Zv.Library b)).length:Int)-1)=((ZaF.Cells (Zv.Library b)).length:Int)-1:=XD (by omega) (by omega)
 obtain ⟨hw,o,ho⟩:=ZzX e he
 unfold ZrH
 rw [hw,Bq]
 by_cases hk:1≤Zbk.Kind e∧Zbk.Kind e≤5
 ·rw [if_pos (ZcF hk)]
  rcases ho with ⟨ho1,ho2⟩ | ho
  ·rw [ho1,Bq,ho2,Bq]
   by_cases hB:Blank e
   ·rw [if_pos (ZcF (.inr (.inr hB))),Zpj _ hf,Bq,show ZrV (places (Zv.Design b))=some ((places (Zv.Design b)).length:Int) from rfl,Bq,e1,ZrR,Bq,
     show Zp7 (ZaF.Cells (Zv.Library b))=some ((ZaF.Cells (Zv.Library b)).length:Int) from rfl]
    simp only [Bq,e2]
    have net:=Zsu (Zv.Design b) (Zbk.Net e) hsd
    have pc:(if tr (0≤Zbk.Place e∧Zbk.Place e≤((places (Zv.Design b)).length:Int)-1)=true then (YA (Zbk.Cell e) 0 (((ZaF.Cells (Zv.Library b)).length:Int)-1)).bind fun y=>some y else some false) =
      some (tr ((0≤Zbk.Place e∧Zbk.Place e≤((places (Zv.Design b)).length:Int)-1)∧(0≤Zbk.Cell e∧Zbk.Cell e≤((ZaF.Cells (Zv.Library b)).length:Int)-1))) :=
     ZAA (Zs4 (ZrR _ _ _))
    by_cases k1:Zbk.Kind e=1
    ·rw [if_pos k1,if_pos k1]
     refine Zq1 pc ?_
     unfold Zr6;grind
    rw [if_neg k1]
    by_cases k2:Zbk.Kind e=2
    ·rw [if_pos k2]
     refine Zq1 pc ?_
     unfold Zr6;grind
    rw [if_neg k2]
    by_cases k4:Zbk.Kind e=4
    ·rw [if_pos k4]
     have mv:(if tr (0≤Zbk.Place e∧Zbk.Place e≤((places (Zv.Design b)).length:Int)-1)=true then (ZpJ (Zv.Design b) (Zbk.Net e)).bind fun y=>if y=true then
        (atI (Zv.ZlA b) (Zbk.Net e)).bind fun w=>(ZpM (QH.Parent w)).bind fun n=>(YA (Zbk.Node e) 0 (Wq (n-1))).bind fun z=>some z else some false else some false) =
       some (tr ((0≤Zbk.Place e∧Zbk.Place e≤((places (Zv.Design b)).length:Int)-1)∧Zre (Zv.Design b) (Zbk.Net e)∧∃ w,(Zv.ZlA b)[(Zbk.Net e).toNat]?=some w∧(0≤Zbk.Node e∧Zbk.Node e≤((QH.Parent w).length:Int)-1))):=by
      by_cases hp:0≤Zbk.Place e∧Zbk.Place e≤((places (Zv.Design b)).length:Int)-1
      ·rw [if_pos (ZcF hp)]
       refine Zq1 (ZpR net fun hn=>?_) (P:=Zre (Zv.Design b) (Zbk.Net e)∧∃ w,(Zv.ZlA b)[(Zbk.Net e).toNat]?=some w∧(0≤Zbk.Node e∧Zbk.Node e≤((QH.Parent w).length:Int)-1)) ⟨fun q=>⟨hp,q⟩,fun q=>q.2⟩
       obtain ⟨w,hw,ha,_⟩:=ZtN h hn
       rw [ha,Bq,Zrj,Bq,Zzz h e hw]
       refine Zq1 (Zs4 (ZrR _ _ _)) ⟨fun q=>⟨w,hw,q⟩,fun ⟨w',hw',q⟩=>?_⟩
       rw [hw] at hw'
       injection hw' with hw'
       subst hw';exact q
      ·rw [if_neg (fun q=>hp ((Zgv _).1 q)),Zag (fun q=>hp q.1)]
     refine Zq1 mv ?_
     unfold Zr6;grind
    rw [if_neg k4]
    by_cases k5:Zbk.Kind e=5
    ·rw [if_pos k5]
     refine Zq1 (Zs4 net) ?_
     unfold Zr6;grind
    ·rw [if_neg k5]
     refine (Zs6 (P:=Blank e∧Zr6 b e) ⟨fun _=>⟨hB,?_⟩,fun _=>rfl⟩)
     unfold Zr6;grind
   ·rw [if_neg (fun q=>by rcases (Zgv _).1 q with q | q | q<;>first | omega | exact hB q),Zag (fun q=>hB q.1)]
  ·exact absurd hk ho
 ·rw [if_neg (fun q=>hk ((Zgv _).1 q)),Zag (fun q=>?_)]
  have:=q.1
  unfold Blank at this
  omega
theorem ZzL (a b:QG) (ha:sm Zin a):ZtT a b=Zp3 a b∧∃ r,Zp3 a b=some r:=by
 have s1:(QG.ZoY a).length≤1048576:=by have:=(Zy2 ha).pins.1;omega
 unfold ZtT Zp3 Zpm
 by_cases k:QG.Kind a=QG.Kind b
 ·rw [if_pos k,if_pos k]
  by_cases hl:((QG.ZoY a).length:Int)=((QG.ZoY b).length:Int)
  ·rw [if_pos hl,if_pos hl]
   rw [Zrc (l:=QG.ZoY a) (show Len _ by unfold Len;omega) (fun k x=>∀ y,(QG.ZoY b)[k]?=some y→(ZhU.Clock x == ZhU.Clock y)=true) (bad:=false) (good:=true)
    (step:=fun v=>Zpb (QG.ZoY a) (QG.ZoY b) v.1)
    (fun k x hx hk _=>by
     have hy:(QG.ZoY b)[k]?=some (QG.ZoY b)[k]:=List.getElem?_eq_getElem (by omega)
     simp only [Zpb,ZtI,show (k:Int)<((QG.ZoY a).length:Int) from by omega,if_true,VU,hx,hy,Bq,Option.some.injEq,forall_eq']
     constructor
     ·intro hh;rw [if_pos hh]
     ·intro hh;rw [if_neg hh])
    (fun _=>by simp only [Zpb,Int.lt_irrefl,if_false]),
    Zrc (l:=QG.ZoY a) (show Len _ by unfold Len;omega) (fun k x=>∀ y,(QG.ZoY b)[k]?=some y→(ZhU.Clock x == ZhU.Clock y)=true) (bad:=false) (good:=true)
    (step:=fun v=>Zp5 a b v.1)
    (fun k x hx hk _=>by
     have hy:(QG.ZoY b)[k]?=some (QG.ZoY b)[k]:=List.getElem?_eq_getElem (by omega)
     simp only [Zp5,show (k:Int)<((QG.ZoY a).length:Int) from by omega,if_true,VU,hx,hy,Bq,Option.some.injEq,forall_eq']
     constructor
     ·intro hh;rw [if_pos hh]
     ·intro hh;rw [if_neg hh])
    (fun _=>by simp only [Zp5,Int.lt_irrefl,if_false])]
   exact ⟨rfl,_,rfl⟩
  ·rw [if_neg hl,if_neg hl]
   exact ⟨rfl,_,rfl⟩
 ·rw [if_neg k,if_neg k]
  exact ⟨rfl,_,rfl⟩
theorem Zu4 (d:Zp) (s:List UInt8) (hd:sm ZdN d):Zr0 d s=some (Zrm (fun x=>decide (Zz.Name x=s)) (Zp.Instances d))∧Zr4 d s=some (Zrm (fun x=>decide (Zz.Name x=s)) (Zp.Instances d)):=by
 have hl:=ZpW (Zrk hd).1
 constructor
 ·unfold Zr0
  rw [ZpV hl (fun x=>decide (Zz.Name x=s)) (fun x _=>rfl),Bq]
 ·unfold Zr4
  refine Zru hl (out:=fun i=>i) (fun k x hx=>?_) ?_
  ·have hk:=(List.getElem?_eq_some_iff.1 hx).1
   simp only [Zry,show (k:Int)<((Zp.Instances d).length:Int) from by omega,if_true,VU,hx,Bq,decide_eq_true_eq]
   split<;>rfl
  ·simp only [Zry,Int.lt_irrefl,if_false]
theorem ZvJ (d:Zp) (s:List UInt8) (hd:sm ZdN d):Zrg d s=some (Zrm (fun x=>decide (s=x)) (Zp.Zbh d))∧ZtX d s=some (Zrm (fun x=>decide (s=x)) (Zp.Zbh d)):=by
 have hl:=ZpW (Zrk hd).2.2
 constructor
 ·unfold Zrg
  rw [ZtF hl,Bq]
 ·unfold ZtX ZuR
  rw [Zru hl (p:=fun x=>decide (s=x)) (out:=fun i=>i) (fun k x hx=>by
   have hk:=(List.getElem?_eq_some_iff.1 hx).1
   simp only [ZsQ,show (k:Int)<((Zp.Zbh d).length:Int) from by omega,if_true,VU,hx,Bq,decide_eq_true_eq]
   by_cases hq:s=x
   ·rw [if_pos hq,if_pos hq.symm]
   ·rw [if_neg hq,if_neg (fun q=>hq q.symm)]) (by simp only [ZsQ,Int.lt_irrefl,if_false]),Bq]
/-
  Plain laws: edits: what is possible, the code of an edit, places after one.
-/
def Zuz (b:Zv):Prop:=∃ (x:Zz) (c:QG) (w:QH) (m:Int),
 0<(Zp.Instances (Zv.Design b)).length∧(Zp.Instances (Zv.Design b))[(Zp.Instances (Zv.Design b)).length-1]?=some x∧
 (ZaF.Cells (Zv.Library b))[(Zz.Cell x).toNat]?=some c∧QG.Kind c=1∧(QG.ZoY c).length=2∧
 (Zz.Zbh x).length=2∧atI (Zz.Zbh x) 0=some m∧atI (Zz.Zbh x) 1=some (((Zp.Zbh (Zv.Design b)).length:Int)-1)∧m≠((Zp.Zbh (Zv.Design b)).length:Int)-1∧
 atI (Zp.Zbh (Zv.Design b)) (((Zp.Zbh (Zv.Design b)).length:Int)-1)=some (Zz.Name x)∧
 atI (Zv.ZlA b) (((Zp.Zbh (Zv.Design b)).length:Int)-1)=some w∧(QH.ZnH w).length=1∧(sinks (Zv.Design b) (((Zp.Zbh (Zv.Design b)).length:Int)-1)).length=1∧(QH.Parent w).length=1∧atI (QH.Cap w) 0=some 0
theorem ZzO {b:Zv} (h:ZqJ b):∃ r,ZqV b=some r∧Zs3 b=some r∧
  (r=true→Zuz b):=by
 have hD:=h.ok.1
 have hf:=hD.few
 have h14:=hf.insts
 have h30:=hD.2.1.2.1
 have hwn:=h.ok.2.1
 unfold ZqV Zs3
 by_cases hn:((Zp.Instances (Zv.Design b)).length:Int)=0
 ·rw [if_pos hn,hn,XD (by omega) (by omega),if_pos (by omega)]
  exact ⟨false,rfl,rfl,fun h=>by cases h⟩
 rw [if_neg hn,XD (n:=((Zp.Instances (Zv.Design b)).length:Int)-1) (by omega) (by omega),if_neg (by omega)]
 have hlt:(Zp.Instances (Zv.Design b)).length-1<(Zp.Instances (Zv.Design b)).length:=by omega
 have hx:=List.getElem?_eq_getElem hlt
 generalize (Zp.Instances (Zv.Design b))[(Zp.Instances (Zv.Design b)).length-1]=x at hx
 have hx2:atI (Zp.Instances (Zv.Design b)) (((Zp.Instances (Zv.Design b)).length:Int)-1)=some x:=Zkf (by omega) (by rw [←hx];congr 1;omega)
 obtain ⟨⟨c0,c1⟩,⟨c,hc,hnp⟩,hnet⟩:=hD.2.2.1 x (List.mem_of_getElem? hx)
 have hc2:atI (ZaF.Cells (Zv.Library b)) (Zz.Cell x)=some c:=Zkf c0 hc
 rw [hx2]
 simp only [Bq,hc2,show ZpQ (Zp.Zbh (Zv.Design b))=some ((Zp.Zbh (Zv.Design b)).length:Int) from rfl]
 rw [show Zqw c=ZqF c from rfl]
 have hbuf:ZqF c=some (tr (QG.Kind c=1∧(QG.ZoY c).length=2)):=by
  unfold ZqF
  refine Zq1 (ZpF fun _=>Zs6 decide_eq_true_iff) ?_
  omega
 rw [hbuf,Bq,Bq]
 by_cases hb:QG.Kind c=1∧(QG.ZoY c).length=2
 ·rw [if_pos (ZcF hb),if_pos (ZcF hb)]
  have hl2:(Zz.Zbh x).length=2:=by rw [hnp];exact hb.2
  have n0:atI (Zz.Zbh x) 0=some ((Zz.Zbh x)[0]'(by omega)):=List.getElem?_eq_getElem (by omega)
  have n1:atI (Zz.Zbh x) 1=some ((Zz.Zbh x)[1]'(by omega)):=List.getElem?_eq_getElem (by omega)
  have hn1:=hnet ((Zz.Zbh x)[1]'(by omega)) (List.getElem_mem _)
  have hpos:1≤(Zp.Zbh (Zv.Design b)).length:=by have:=hn1.1;have:=hn1.2;omega
  generalize (Zz.Zbh x)[1]'(by omega)=m1 at n1 hn1
  generalize (Zz.Zbh x)[0]'(by omega)=m0 at n0
  have eL:Wq (((Zp.Zbh (Zv.Design b)).length:Int)-1)=((Zp.Zbh (Zv.Design b)).length:Int)-1:=XD (by omega) (by omega)
  have eW:Wq (((Zv.ZlA b).length:Int)-1)=((Zp.Zbh (Zv.Design b)).length:Int)-1:=by rw [XD (by omega) (by omega)];omega
  have hL:Zre (Zv.Design b) (((Zp.Zbh (Zv.Design b)).length:Int)-1):=⟨by omega,by omega⟩
  obtain ⟨w,hw1,hw2,hw3⟩:=ZtN h hL
  have nL:atI (Zp.Zbh (Zv.Design b)) (((Zp.Zbh (Zv.Design b)).length:Int)-1)=some ((Zp.Zbh (Zv.Design b))[(Zp.Zbh (Zv.Design b)).length-1]'(by omega)):=Zkf (by omega) (by
   rw [List.getElem?_eq_getElem (by omega)]
   congr 2
   omega)
  generalize (Zp.Zbh (Zv.Design b))[(Zp.Zbh (Zv.Design b)).length-1]'(by omega)=nm at nL
  have hcap:atI (QH.Cap w) 0=some ((QH.Cap w)[0]'(by have:=hw3.1;have:=hw3.2.2.1;omega)):=List.getElem?_eq_getElem (by have:=hw3.1;have:=hw3.2.2.1;omega)
  generalize (QH.Cap w)[0]'(by have:=hw3.1;have:=hw3.2.2.1;omega)=cp at hcap
  have hsk:=hw3.2.2.2.1
  simp only [eL,eW,n0,n1,nL,hw2,Bq,ZcT _ _ hf,Zuu,hcap]
  rw [←hsk]
  by_cases q1:m1=((Zp.Zbh (Zv.Design b)).length:Int)-1
  ·rw [if_pos q1,if_pos q1]
   by_cases q2:m0=((Zp.Zbh (Zv.Design b)).length:Int)-1
   ·rw [if_pos q2]
    by_cases q3:nm=Zz.Name x
    ·rw [if_pos q3]
     simp only [if_pos q2]
     exact ⟨_,rfl,rfl,fun q=>by cases q⟩
    ·rw [if_neg q3]
     exact ⟨_,rfl,rfl,fun q=>by cases q⟩
   ·rw [if_neg q2]
    by_cases q3:nm=Zz.Name x
    ·rw [if_pos q3,if_pos q3]
     simp only [if_neg q2]
     by_cases q4:((QH.ZnH w).length:Int)=1
     ·rw [if_pos q4,if_pos q4]
      by_cases q5:((QH.Parent w).length:Int)=1
      ·simp only [if_pos q5]
       refine ⟨_,rfl,rfl,fun q=>?_⟩
       have q6:=of_decide_eq_true q
       subst q1 q6
       exact ⟨x,c,w,m0,by omega,hx,hc,hb.1,hb.2,hl2,n0,n1,q2,by rw [nL,q3],hw2,by omega,by omega,by omega,hcap⟩
      ·simp only [if_neg q5]
       exact ⟨_,rfl,rfl,fun q=>by cases q⟩
     ·rw [if_neg q4,if_neg q4]
      exact ⟨_,rfl,rfl,fun q=>by cases q⟩
    ·rw [if_neg q3,if_neg q3]
     exact ⟨_,rfl,rfl,fun q=>by cases q⟩
  ·rw [if_neg q1,if_neg q1]
   exact ⟨_,rfl,rfl,fun q=>by cases q⟩
 ·rw [if_neg (fun q=>hb ((Zgv _).1 q)),if_neg (fun q=>hb ((Zgv _).1 q))]
  exact ⟨false,rfl,rfl,fun h=>by cases h⟩
theorem ZyB {b:Zv} (h:ZqJ b) {i:Int} (h0:0≤i) (h1:i≤((ZaF.Cells (Zv.Library b)).length:Int)-1):∃ c,atI (ZaF.Cells (Zv.Library b)) i=some c∧sm Zin c:=by
 have hlt:i.toNat<(ZaF.Cells (Zv.Library b)).length:=by omega
 have hc:=List.getElem?_eq_getElem hlt
 exact ⟨_,Zkf h0 hc,ZqC (Zw1 (Zrd h.sm).1) hc⟩
theorem Zx5 {b:Zv} (h:ZqJ b) {i:Int} (h0:0≤i) (h1:i≤((places (Zv.Design b)).length:Int)-1):∃ p,atI (places (Zv.Design b)) i=some p∧p∈places (Zv.Design b):=by
 have hlt:i.toNat<(places (Zv.Design b)).length:=by omega
 have hc:=List.getElem?_eq_getElem hlt
 exact ⟨_,Zkf h0 hc,List.getElem_mem _⟩
theorem Zzc {d:Zp} {p:Pl} (hp:p∈places d) (h0:0≤p.1):∃ x,(Zp.Instances d)[p.1.toNat]?=some x∧x∈Zp.Instances d:=by
 unfold places at hp
 rcases List.mem_append.1 hp with hp | hp
 ·obtain ⟨i,z,hi,hz⟩:=Zug.1 hp
  unfold ZeJ at hz
  obtain ⟨j,n,hj,hn⟩:=Zug.1 hz
  simp only [List.mem_singleton] at hn
  subst hn
  refine ⟨z,?_,List.mem_of_getElem? hi⟩
  show (Zp.Instances d)[(((0+i:Nat):Int)).toNat]?=some z
  rw [show (((0+i:Nat):Int)).toNat=i by omega]
  exact hi
 ·obtain ⟨j,q,hj,hq⟩:=Zug.1 hp
  simp only [ZdA,List.mem_singleton] at hq
  subst hq
  have h0:(0:Int)≤-1:=h0
  omega
theorem Zuz.two {b:Zv} (h:Zuz b):0<(Zp.Instances (Zv.Design b)).length∧∃ x,(Zp.Instances (Zv.Design b))[(Zp.Instances (Zv.Design b)).length-1]?=some x∧(Zz.Zbh x).length=2:=by
 obtain ⟨x,c,w,m,h1,h2,_,_,_,h3,_⟩:=h
 exact ⟨h1,x,h2,h3⟩
def ZrD (b:Zv) (e:Zbk) (p:Pl):Prop:=0≤Zbk.Place e∧(places (Zv.Design b))[(Zbk.Place e).toNat]?=some p
theorem ZxW {b:Zv} {e:Zbk} {p:Pl} (h0:0≤Zbk.Place e) (hp:atI (places (Zv.Design b)) (Zbk.Place e)=some p):ZrD b e p:=by
 refine ⟨h0,?_⟩
 rw [show Zbk.Place e=(((Zbk.Place e).toNat:Nat):Int) by omega,VU] at hp
 exact hp
theorem ZrD.mem {b:Zv} {e:Zbk} {p:Pl} (h:ZrD b e p):p∈places (Zv.Design b):=List.mem_of_getElem? h.2
theorem ZrD.at {b:Zv} {e:Zbk} {p:Pl} (h:ZrD b e p):atI (places (Zv.Design b)) (Zbk.Place e)=some p:=Zkf h.1 h.2
def ZAc (b:Zv) (e:Zbk):Prop :=
 (Zbk.Kind e=1→∃ (p:Pl) (x:Zz) (c c2:QG),ZrD b e p∧0≤p.1∧p.2.2.2.1=true∧atI (Zp.Instances (Zv.Design b)) p.1=some x∧atI (ZaF.Cells (Zv.Library b)) (Zz.Cell x)=some c∧atI (ZaF.Cells (Zv.Library b)) (Zbk.Cell e)=some c2∧Zp3 c c2=some true)∧
 (Zbk.Kind e=2→∃ (p:Pl) (c:QG),ZrD b e p∧p.2.2.2.1=false∧atI (ZaF.Cells (Zv.Library b)) (Zbk.Cell e)=some c∧QG.Kind c=1∧(QG.ZoY c).length=2∧Zad (Zbk.Name e)=true∧
  Zrm (fun x=>decide (Zz.Name x=Zbk.Name e)) (Zp.Instances (Zv.Design b))<0∧Zrm (fun x=>decide (Zbk.Name e=x)) (Zp.Zbh (Zv.Design b))<0)∧
 (Zbk.Kind e=3→Zuz b)∧
 (Zbk.Kind e=4→∃ p:Pl,ZrD b e p∧p.2.2.2.1=false∧p.2.2.1≠Zbk.Net e)∧
 (Zbk.Kind e=5→ZrY (Zbk.ZoZ e) ((sinks (Zv.Design b) (Zbk.Net e)).length:Int))
theorem ZyG {b:Zv} (h:ZqJ b) (e:Zbk) (he:sm Zn2 e) (hB:Blank e) (hR:Zr6 b e):∃ r,Zrh e b=some r∧Zst b e=some r∧
  (r=true→ZAc b e):=by
 have hD:=h.ok.1
 have hf:=hD.few
 have hsd:=(Zrd h.sm).2.1
 obtain ⟨he1,he2⟩:=ZvB he
 unfold Zrh Zst
 rw [Zpj _ hf,JF _ hf,Bq,Bq]
 by_cases k1:Zbk.Kind e=1
 ·rw [if_pos k1,if_pos k1]
  obtain ⟨⟨p0,p1⟩,c0,c1⟩:=hR.1 (.inl k1)
  obtain ⟨p,hp,hpm⟩:=Zx5 h p0 p1
  obtain ⟨c2,hc2,hc2s⟩:=ZyB h c0 c1
  rw [hp]
  simp only [Bq,hc2]
  by_cases q1:(0:Int)≤p.1
  ·rw [if_pos q1,if_pos q1]
   by_cases q2:p.2.2.2.1=true
   ·rw [if_pos q2,if_pos q2]
    obtain ⟨x,hx,hxm⟩:=Zzc hpm q1
    have hx2:atI (Zp.Instances (Zv.Design b)) p.1=some x:=Zkf q1 hx
    obtain ⟨⟨d0,d1⟩,_,_⟩:=hD.2.2.1 x hxm
    obtain ⟨c,hc,hcs⟩:=ZyB h d0 d1
    obtain ⟨a1,r,a2⟩:=ZzL c c2 hcs
    have e1:Zbl.instance p=p.1:=rfl
    have e2:Zk.instance p=p.1:=rfl
    simp only [e1,e2,hx2,Bq,hc,a1,a2]
    exact ⟨r,rfl,rfl,fun q=>⟨fun _=>⟨p,x,c,c2,ZxW p0 hp,q1,q2,hx2,hc,hc2,by rw [a2,q]⟩,fun k=>by omega,fun k=>by omega,fun k=>by omega,fun k=>by omega⟩⟩
   ·rw [if_neg q2,if_neg q2]
    exact ⟨_,rfl,rfl,fun q=>by cases q⟩
  ·rw [if_neg q1,if_neg q1]
   exact ⟨_,rfl,rfl,fun q=>by cases q⟩
 rw [if_neg k1,if_neg k1]
 by_cases k2:Zbk.Kind e=2
 ·rw [if_pos k2,if_pos k2]
  obtain ⟨⟨p0,p1⟩,c0,c1⟩:=hR.1 (.inr k2)
  obtain ⟨p,hp,hpm⟩:=Zx5 h p0 p1
  obtain ⟨c2,hc2,hc2s⟩:=ZyB h c0 c1
  have hbuf:ZqF c2=some (tr (QG.Kind c2=1∧(QG.ZoY c2).length=2)):=by
   unfold ZqF
   refine Zq1 (ZpF fun _=>Zs6 decide_eq_true_iff) ?_
   omega
  have hlN:(Zbk.Name e).length≤4611686018427387904:=by have:((Zbk.Name e).length:Int)≤1048576:=he1;omega
  rw [hp]
  simp only [Bq,hc2,show Zqw c2=ZqF c2 from rfl,hbuf,Zep,ZdJ _ hlN,(Zu4 _ (Zbk.Name e) hsd).1,(Zu4 _ (Zbk.Name e) hsd).2,(ZvJ _ (Zbk.Name e) hsd).1,(ZvJ _ (Zbk.Name e) hsd).2]
  have e1:Zbl.drives p=p.2.2.2.1:=rfl
  have e2:Zk.drives p=p.2.2.2.1:=rfl
  rw [e1,e2]
  by_cases q2:p.2.2.2.1=true
  ·simp only [if_pos q2]
   exact ⟨_,rfl,rfl,fun q=>by cases q⟩
  simp only [if_neg q2]
  by_cases q3:tr (QG.Kind c2=1∧(QG.ZoY c2).length=2)=true
  ·simp only [if_pos q3]
   by_cases q4:Zad (Zbk.Name e)=true
   ·simp only [if_pos q4]
    split
    ·rename_i q5
     refine ⟨_,rfl,rfl,fun q=>⟨fun k=>by omega,fun _=>⟨p,c2,ZxW p0 hp,by simpa using q2,hc2,((Zgv _).1 q3).1,((Zgv _).1 q3).2,q4,q5,of_decide_eq_true q⟩,fun k=>by omega,fun k=>by omega,fun k=>by omega⟩⟩
    ·exact ⟨_,rfl,rfl,fun q=>by cases q⟩
   ·simp only [if_neg q4]
    exact ⟨_,rfl,rfl,fun q=>by cases q⟩
  ·simp only [if_neg q3]
   exact ⟨_,rfl,rfl,fun q=>by cases q⟩
 rw [if_neg k2,if_neg k2]
 by_cases k3:Zbk.Kind e=3
 ·rw [if_pos k3,if_pos k3]
  obtain ⟨r,a,c,d⟩:=ZzO h
  rw [a,c]
  exact ⟨r,rfl,rfl,fun q=>⟨fun k=>by omega,fun k=>by omega,fun _=>d q,fun k=>by omega,fun k=>by omega⟩⟩
 rw [if_neg k3,if_neg k3]
 by_cases k4:Zbk.Kind e=4
 ·rw [if_pos k4,if_pos k4]
  obtain ⟨⟨p0,p1⟩,_⟩:=hR.2.1 k4
  obtain ⟨p,hp,hpm⟩:=Zx5 h p0 p1
  rw [hp]
  simp only [Bq]
  have e1:Zbl.drives p=p.2.2.2.1:=rfl
  have e2:Zk.drives p=p.2.2.2.1:=rfl
  rw [e1,e2]
  by_cases q2:p.2.2.2.1=true
  ·simp only [if_pos q2]
   exact ⟨_,rfl,rfl,fun q=>by cases q⟩
  ·simp only [if_neg q2]
   refine ⟨_,rfl,rfl,fun q=>⟨fun k=>by omega,fun k=>by omega,fun k=>by omega,fun _=>⟨p,ZxW p0 hp,by simpa using q2,by simp only [Bool.not_eq_true',decide_eq_false_iff_not] at q;exact q⟩,fun k=>by omega⟩⟩
 rw [if_neg k4,if_neg k4]
 have k5:Zbk.Kind e=5:=by unfold Blank at hB;omega
 obtain ⟨w,hw1,hw2,hw3⟩:=ZtN h (hR.2.2 k5)
 rw [hw2,ZcT _ _ hf]
 simp only [Bq,Zrj,Zvw _ _ he2,Zuw _ _ he2,hw3.2.2.2.1]
 exact ⟨_,rfl,rfl,fun q=>⟨fun k=>by omega,fun k=>by omega,fun k=>by omega,fun k=>by omega,fun _=>(Zgv _).1 q⟩⟩
structure ZtQ (b:Zv) (e:Zbk):Prop where
 blk:ZqJ b
 blank:Blank e
 range:Zr6 b e
 poss:ZAc b e
 lim:Zbk.Kind e=2→(Zp.Instances (Zv.Design b)).length≤13∧(Zp.Zbh (Zv.Design b)).length≤29
theorem ZtQ.last {b:Zv} {e:Zbk} (h:ZtQ b e) (k3:Zbk.Kind e=3):0<(Zp.Instances (Zv.Design b)).length∧∃ x,(Zp.Instances (Zv.Design b))[(Zp.Instances (Zv.Design b)).length-1]?=some x∧(Zz.Zbh x).length=2:=(h.poss.2.2.1 k3).two
theorem ZwJ {b:Zv} (h:ZqJ b) (e:Zbk) (he:sm Zn2 e):∃ c,ZsA e b=some c∧Zqu b e=some c∧(c=0→ZtQ b e):=by
 have hB:=h.ok
 unfold Zqu ZsA
 rw [Zrz b h.sm,Bq,if_pos (ZcF hB)]
 ·have hwn:=hB.2.1
  rw [Zwy h e he,ZuW e he,ZuX h e he]
  simp only [Bq]
  by_cases h1:Blank e
  ·rw [if_pos (ZcF h1)]
   by_cases h2:Zr6 b e
   ·rw [if_pos (ZcF ⟨h1,h2⟩),if_pos (ZcF h2)]
    obtain ⟨r,a,c,d⟩:=ZyG h e he h1 h2
    rw [a,c]
    simp only [Bq]
    by_cases hr:r=true
    ·rw [if_pos hr,if_pos hr]
     have h14:=hB.1.few.insts
     have h30:=hB.1.2.1.2.1
     by_cases k2:Zbk.Kind e=2
     ·rw [if_pos k2,if_pos k2]
      by_cases q1:((Zp.Instances (Zv.Design b)).length:Int)=14
      ·rw [if_pos q1,if_pos q1]
       exact ⟨_,rfl,rfl,fun q=>by cases q⟩
      ·rw [if_neg q1,if_neg q1]
       by_cases q2:((Zp.Zbh (Zv.Design b)).length:Int)=30
       ·rw [if_pos q2,if_pos (by omega)]
        exact ⟨_,rfl,rfl,fun q=>by cases q⟩
       ·rw [if_neg q2,if_neg (by omega)]
        exact ⟨_,rfl,rfl,fun _=>⟨h,h1,h2,d hr,fun _=>⟨by omega,by omega⟩⟩⟩
     ·rw [if_neg k2,if_neg k2]
      exact ⟨_,rfl,rfl,fun _=>⟨h,h1,h2,d hr,fun k=>absurd k k2⟩⟩
    ·rw [if_neg hr,if_neg hr]
     exact ⟨_,rfl,rfl,fun q=>by cases q⟩
   ·rw [if_neg (fun q=>h2 ((Zgv _).1 q).2),if_neg (fun q=>h2 ((Zgv _).1 q))]
    exact ⟨_,rfl,rfl,fun q=>by cases q⟩
  ·rw [if_neg (fun q=>h1 ((Zgv _).1 q).1),if_neg (fun q=>h1 ((Zgv _).1 q))]
   exact ⟨_,rfl,rfl,fun q=>by cases q⟩
/-
  Plain laws: the code of an edit of any block.
-/
theorem Zxh (b:Zv) (e:Zbk) (hb:sm ZjX b) (he:sm Zn2 e):∃ c,ZqE b e=some c∧Zqu b e=some c∧(c=0→ZtQ b e):=by
 unfold ZqE
 rw [Zua b hb,Bq]
 by_cases hB:ZvC b
 ·obtain ⟨c,h1,h2,h3⟩:=ZwJ ⟨hB,hb⟩ e he
  rw [if_pos (ZcF hB),h1]
  exact ⟨c,rfl,h2,h3⟩
 ·rw [if_neg (fun q=>hB ((Zgv _).1 q))]
  refine ⟨1,rfl,?_,fun q=>by cases q⟩
  unfold Zqu
  rw [Zrz b hb,Bq,if_neg (fun q=>hB ((Zgv _).1 q))]
theorem ZDW (b:Zv) (e:Zbk) (hb:sm ZjX b) (he:sm Zn2 e):∃ c,Zqu b e=some c∧(c=0→ZtQ b e):=by
 by_cases hB:ZvC b
 ·obtain ⟨c,h1,h2,h3⟩:=ZwJ ⟨hB,hb⟩ e he
  exact ⟨c,h2,h3⟩
 ·refine ⟨1,?_,fun q=>by cases q⟩
  unfold Zqu
  rw [Zrz b hb,Bq,if_neg (fun q=>hB ((Zgv _).1 q))]
/-
  Plain laws: ports stand behind the instances.
-/
theorem Zy0:∀ (l:List Zah) (m:Nat),(cat ZdA m l).length=l.length
 | [],_=>rfl
 | x::r,m=>by simp only [cat,List.length_append,ZdA,List.length_nil,Zy0 r,List.length_cons];omega
theorem ZzT {i:Nat} {x:Zz} {p:Pl} (hp:p∈ZeJ i x):p.1=(i:Int):=by
 unfold ZeJ at hp
 obtain ⟨j,n,hj,hn⟩:=Zug.1 hp
 simp only [List.mem_singleton] at hn
 subst hn;rfl
theorem ZMS (i:Nat) (x:Zz):(ZeJ i x).length=(Zz.Zbh x).length:=by
 have:∀ (l:List Int) (m:Nat) (c:Int),(cat (fun j n=>[((i:Int),(j:Int),n,decide ((j:Int)=c),())]) m l).length=l.length:=by
  intro l
  induction l with
  | nil=>intro m c;rfl
  | cons y r ih=>intro m c;simp only [cat,List.length_append,List.length_nil,ih,List.length_cons];omega
 unfold ZeJ
 exact this _ _ _
theorem Zzd {d:Zp} {k:Nat} {p:Pl} (hp:(places d)[k]?=some p):(p.1<0↔(places d).length≤k+(Zp.Vk d).length)∧-1≤p.1:=by
 have hl:(places d).length=(cat ZeJ 0 (Zp.Instances d)).length+(Zp.Vk d).length:=by unfold places;rw [List.length_append,Zy0]
 by_cases hk:k<(cat ZeJ 0 (Zp.Instances d)).length
 ·have h1:p∈cat ZeJ 0 (Zp.Instances d):=by
   unfold places at hp
   rw [List.getElem?_append_left hk] at hp
   exact List.mem_of_getElem? hp
  obtain ⟨i,z,hi,hz⟩:=Zug.1 h1
  have:=ZzT hz
  omega
 ·have h1:p∈cat ZdA 0 (Zp.Vk d):=by
   unfold places at hp
   rw [List.getElem?_append_right (by omega)] at hp
   exact List.mem_of_getElem? hp
  obtain ⟨j,q,hj,hq⟩:=Zug.1 h1
  simp only [ZdA,List.mem_singleton] at hq
  subst hq
  simp only
  omega
/-
  Plain laws: places, one by one; a place put on another net; an instance more, an instance less.
-/
theorem Zr7 {α β:Type} {g:Nat→α→β}:∀ (l:List α) (m j:Nat),(cat (fun j n=>[g j n]) m l)[j]?=(l[j]?).map (g (m+j))
 | [],m,j=>by simp [cat]
 | x::r,m,0=>by simp [cat]
 | x::r,m,j+1=>by
  simp only [cat,List.singleton_append,List.getElem?_cons_succ,Zr7 r]
  rw [show m+1+j=m+(j+1) by omega]
theorem Zra {α β:Type} {g:Nat→α→β}:∀ (l:List α) (m:Nat),(cat (fun j n=>[g j n]) m l).length=l.length
 | [],m=>rfl
 | x::r,m=>by simp only [cat,List.singleton_append,List.length_cons,Zra r]
theorem ZvF {α β:Type} {g:Nat→α→β} (y:α):∀ (l:List α) (m j:Nat),cat (fun j n=>[g j n]) m (l.set j y)=(cat (fun j n=>[g j n]) m l).set j (g (m+j) y)
 | [],m,j=>by simp [cat]
 | x::r,m,0=>by simp [cat]
 | x::r,m,j+1=>by
  simp only [cat,List.singleton_append,List.set_cons_succ,ZvF y r]
  rw [show m+1+j=m+(j+1) by omega]
theorem Zt8 {α β:Type} (f:Nat→α→List β) {l:List α} {i:Nat} {x:α} (hx:l[i]?=some x):cat f 0 l=cat f 0 (l.take i)++(f i x++cat f (i+1) (l.drop (i+1))):=by
 have hi:=(List.getElem?_eq_some_iff.1 hx).1
 have e:l=l.take i++(x::l.drop (i+1)):=by
  have hd:l.drop i=x::l.drop (i+1):=by
   rw [List.drop_eq_getElem_cons hi];congr 1;exact (List.getElem?_eq_some_iff.1 hx).2
  rw [←hd,List.take_append_drop]
 have e2:=congrArg (cat f 0) e
 rw [ZeE] at e2
 simp only [cat,Nat.zero_add,List.length_take] at e2
 rw [show min i l.length=i by omega] at e2
 exact e2
theorem ZAl {α β:Type} (f:Nat→α→List β) {l:List α} {i j:Nat} {x y:α} {z:β} (hx:l[i]?=some x) (hj:j<(f i x).length) (hy:f i y=(f i x).set j z):cat f 0 (l.set i y)=(cat f 0 l).set ((cat f 0 (l.take i)).length+j) z:=by
 have hi:=(List.getElem?_eq_some_iff.1 hx).1
 rw [Zt8 f hx,Zt8 f (l:=l.set i y) (x:=y) (List.getElem?_set_self hi),List.take_set,List.set_eq_of_length_le (by rw [List.length_take];omega),List.drop_set_of_lt (by omega),hy,List.set_append,if_neg (by omega),List.set_append,if_pos (by omega),Nat.add_sub_cancel_left]
abbrev Zto (d:Zp) (i:Nat):Nat:=(cat ZeJ 0 ((Zp.Instances d).take i)).length
abbrev Zpg (d:Zp):Nat:=(cat ZeJ 0 (Zp.Instances d)).length
def ZrW (i:Nat) (x:Zz) (j:Nat) (n:Int):Pl:=((i:Int),(j:Int),n,decide ((j:Int)=Wq (((Zz.Zbh x).length:Int)-1)),())
theorem ZvY (i:Nat) (x:Zz):ZeJ i x=cat (fun j n=>[ZrW i x j n]) 0 (Zz.Zbh x):=rfl
theorem Zsj {i:Nat} {x:Zz} {j:Nat} {n:Int} (h:(Zz.Zbh x)[j]?=some n):(ZeJ i x)[j]?=some (ZrW i x j n):=by
 rw [ZvY,Zr7,h,Nat.zero_add];rfl
theorem Zp1 (i:Nat) (x:Zz):(ZeJ i x).length=(Zz.Zbh x).length:=by rw [ZvY,Zra]
theorem Zv0 (l:List Zah) (m:Nat):cat ZdA m l=cat (fun j p=>[((-1:Int),(j:Int),Zah.Net p,decide (Zah.Dir p=1),())]) m l:=rfl
theorem Zyn (l:List Zah) (m:Nat):(cat ZdA m l).length=l.length:=by rw [Zv0,Zra]
theorem ZsY {d:Zp} {i j:Nat} {x:Zz} {n:Int} (hx:(Zp.Instances d)[i]?=some x) (hn:(Zz.Zbh x)[j]?=some n):(places d)[Zto d i+j]?=some (ZrW i x j n):=by
 have hj:=(List.getElem?_eq_some_iff.1 hn).1
 unfold places
 rw [Zt8 ZeJ hx,List.append_assoc,List.getElem?_append_right (by unfold Zto;omega),show Zto d i+j-(cat ZeJ 0 ((Zp.Instances d).take i)).length=j by unfold Zto;omega,List.append_assoc,List.getElem?_append_left (by rw [Zp1];exact hj)]
 exact Zsj hn
theorem Zx7 {d:Zp} {j:Nat} {q:Zah} (hq:(Zp.Vk d)[j]?=some q):(places d)[Zpg d+j]?=some ((-1:Int),(j:Int),Zah.Net q,decide (Zah.Dir q=1),()):=by
 unfold places
 rw [List.getElem?_append_right (by unfold Zpg;omega),show Zpg d+j-(cat ZeJ 0 (Zp.Instances d)).length=j by unfold Zpg;omega,Zv0,Zr7,hq,Nat.zero_add];rfl
theorem Zqo {d:Zp} {k:Nat} {p:Pl} (hp:(places d)[k]?=some p) :
  (∃ (i j:Nat) (x:Zz) (n:Int),(Zp.Instances d)[i]?=some x∧(Zz.Zbh x)[j]?=some n∧k=Zto d i+j∧p=ZrW i x j n)∨
  (∃ (j:Nat) (q:Zah),(Zp.Vk d)[j]?=some q∧k=Zpg d+j∧p=((-1:Int),(j:Int),Zah.Net q,decide (Zah.Dir q=1),())):=by
 by_cases hk:k<Zpg d
 ·left
  have h1:(cat ZeJ 0 (Zp.Instances d))[k]?=some p:=by
   unfold places at hp
   rwa [List.getElem?_append_left (show k<(cat ZeJ 0 (Zp.Instances d)).length from hk)] at hp
  have find:∀ (n:Nat),n≤(Zp.Instances d).length→k<Zto d n→∃ i,i<n∧Zto d i≤k∧k<Zto d (i+1):=by
   intro n
   induction n with
   | zero=>intro _ h;simp [Zto,cat] at h
   | succ n ih =>
    intro hn hlt
    by_cases hq:k<Zto d n
    ·obtain ⟨i,a,b,c⟩:=ih (by omega) hq
     exact ⟨i,by omega,b,c⟩
    ·exact ⟨n,by omega,by omega,hlt⟩
  obtain ⟨i,hi,hlo,hhi⟩:=find (Zp.Instances d).length (Nat.le_refl _) (by unfold Zto;rw [List.take_length];exact hk)
  have hx:(Zp.Instances d)[i]?=some (Zp.Instances d)[i]:=List.getElem?_eq_getElem hi
  generalize (Zp.Instances d)[i]=x at hx
  have hs:Zto d (i+1)=Zto d i+(Zz.Zbh x).length:=by
   unfold Zto
   rw [Zkj hx,List.length_append,Zp1]
  have hj:k-Zto d i<(Zz.Zbh x).length:=by omega
  have hn:(Zz.Zbh x)[k-Zto d i]?=some (Zz.Zbh x)[k-Zto d i]:=List.getElem?_eq_getElem hj
  generalize (Zz.Zbh x)[k-Zto d i]=n at hn
  refine ⟨i,k-Zto d i,x,n,hx,hn,by omega,?_⟩
  have h2:=ZsY hx hn
  rw [show Zto d i+(k-Zto d i)=k by omega,hp] at h2
  injection h2
 ·right
  have h1:(cat ZdA 0 (Zp.Vk d))[k-Zpg d]?=some p:=by
   unfold places at hp
   rwa [List.getElem?_append_right (show (cat ZeJ 0 (Zp.Instances d)).length≤k from Nat.le_of_not_lt hk)] at hp
  rw [Zv0,Zr7,Nat.zero_add] at h1
  cases hq:(Zp.Vk d)[k-Zpg d]? with
  | none=>rw [hq] at h1;cases h1
  | some q =>
   rw [hq] at h1
   injection h1 with h1
   exact ⟨k-Zpg d,q,hq,by omega,h1.symm⟩
theorem key_inj {d:Zp} {k k':Nat} {p p':Pl} (hp:(places d)[k]?=some p) (hp':(places d)[k']?=some p') (h1:p.1=p'.1) (h2:p.2.1=p'.2.1):k=k':=by
 rcases Zqo hp with ⟨i,j,x,n,_,_,e,rfl⟩ | ⟨j,q,_,e,rfl⟩<;>rcases Zqo hp' with ⟨i',j',x',n',_,_,e',rfl⟩ | ⟨j',q',_,e',rfl⟩
 ·simp only [ZrW] at h1 h2
  have:i=i':=by omega
  have:j=j':=by omega
  subst i' j'
  omega
 ·simp only [ZrW] at h1;omega
 ·simp only [ZrW] at h1;omega
 ·simp only at h2
  omega
def ZrQ (x:Zz) (j:Nat) (n:Int):Zz:=(Zz.Name x,Zz.Cell x,List.set (Zz.Zbh x) j n,())
def setPort (q:Zah) (n:Int):Zah:=(Zah.Name q,Zah.Dir q,n,())
def conn (d:Zp) (a b:Int) (n:Int):Zp :=
 if a<0 then (Zp.Instances d,Zp.Zbh d,match (Zp.Vk d)[b.toNat]? with
  | some q=>(Zp.Vk d).set b.toNat (setPort q n)
  | none=>Zp.Vk d,())
 else (match (Zp.Instances d)[a.toNat]? with
  | some x=>(Zp.Instances d).set a.toNat (ZrQ x b.toNat n)
  | none=>Zp.Instances d,Zp.Zbh d,Zp.Vk d,())
theorem ZzF (i:Nat) (x:Zz) (j:Nat) (n:Int):ZeJ i (ZrQ x j n)=(ZeJ i x).set j (ZrW i x j n):=by
 rw [ZvY,ZvY]
 show cat (fun (j':Nat) (m:Int)=>[ZrW i (ZrQ x j n) j' m]) 0 (List.set (Zz.Zbh x) j n)=_
 have:(fun (j':Nat) (m:Int)=>[ZrW i (ZrQ x j n) j' m])=fun j' m=>[ZrW i x j' m]:=by
  funext j' m
  have hl:(Zz.Zbh (ZrQ x j n)).length=(Zz.Zbh x).length:=List.length_set
  simp only [ZrW,hl]
 rw [this,ZvF,Nat.zero_add]
theorem ZpN {d:Zp} {k:Nat} {p:Pl} (hp:(places d)[k]?=some p) (n:Int):places (conn d p.1 p.2.1 n)=(places d).set k (p.1,p.2.1,n,p.2.2.2.1,()):=by
 rcases Zqo hp with ⟨i,j,x,m,hx,hn,e,rfl⟩ | ⟨j,q,hq,e,rfl⟩
 ·have hj:=(List.getElem?_eq_some_iff.1 hn).1
  have e1:conn d (ZrW i x j m).1 (ZrW i x j m).2.1 n=((Zp.Instances d).set i (ZrQ x j n),Zp.Zbh d,Zp.Vk d,()):=by
   unfold conn
   rw [if_neg (by simp only [ZrW];omega)]
   simp only [ZrW,Int.toNat_natCast,hx]
  rw [e1]
  unfold places
  show cat ZeJ 0 ((Zp.Instances d).set i (ZrQ x j n))++cat ZdA 0 (Zp.Vk d)=_
  have hlt:k<(cat ZeJ 0 (Zp.Instances d)).length:=by
   rw [Zt8 ZeJ hx,List.length_append,List.length_append,Zp1]
   unfold Zto at e
   omega
  rw [ZAl ZeJ hx (j:=j) (z:=ZrW i x j n) (by rw [Zp1];exact hj) (ZzF i x j n),List.set_append,if_pos hlt,e]
  rfl
 ·have e1:conn d (-1) (j:Int) n=(Zp.Instances d,Zp.Zbh d,(Zp.Vk d).set j (setPort q n),()):=by
   unfold conn
   rw [if_pos (by omega)]
   simp only [Int.toNat_natCast,hq]
  show places (conn d (-1) (j:Int) n)=_
  rw [e1]
  unfold places
  show cat ZeJ 0 (Zp.Instances d)++cat ZdA 0 ((Zp.Vk d).set j (setPort q n))=_
  rw [List.set_append,if_neg (by unfold Zpg at e;omega),Zv0,ZvF,Nat.zero_add,e,show Zpg d+j-(cat ZeJ 0 (Zp.Instances d)).length=j by unfold Zpg;omega,Zv0]
  rfl
/-
  Plain laws: the wires' sinks out of the places' nodes.
-/
def nth (pl:List Pl) (net:Int) (k:Nat):Nat:=(cat (Zg9 net) 0 (pl.take k)).length
theorem Zu9 {net:Int} {k:Nat} {p:Pl} (h:¬(p.2.2.1=net∧p.2.2.2.1=false)):Zg9 net k p=[]:=by
 unfold Zg9
 split
 ·split
  ·rfl
  ·rename_i h1 h2;exact absurd ⟨h1,by simpa using h2⟩ h
 ·rfl
theorem Zva {net:Int} {k:Nat} {p:Pl} (h1:p.2.2.1=net) (h2:p.2.2.2.1=false):Zg9 net k p=[(k:Int)]:=by
 unfold Zg9
 rw [if_pos h1,if_neg (by rw [h2];simp)]
theorem ZuF {pl:List Pl} {net:Int} {k:Nat} {p:Pl} (hp:pl[k]?=some p) (h1:p.2.2.1=net) (h2:p.2.2.2.1=false):(cat (Zg9 net) 0 pl)[nth pl net k]?=some (k:Int):=by
 rw [Zt8 (Zg9 net) hp,Zva h1 h2]
 unfold nth
 rw [List.getElem?_append_right (Nat.le_refl _),Nat.sub_self]
 rfl
theorem Zyq {pl:List Pl} {net:Int} {v:Int} (hv:v∈cat (Zg9 net) 0 pl):∃ (k:Nat) (p:Pl),v=(k:Int)∧pl[k]?=some p∧p.2.2.1=net∧p.2.2.2.1=false:=by
 obtain ⟨k,p,hp,hv⟩:=Zug.1 hv
 by_cases h:p.2.2.1=net∧p.2.2.2.1=false
 ·rw [Zva h.1 h.2] at hv
  simp only [List.mem_singleton] at hv
  exact ⟨k,p,by rw [hv];simp,hp,h.1,h.2⟩
 ·rw [Zu9 h] at hv
  cases hv
theorem ZzA {pl:List Pl} {net:Int} {k:Nat} {p:Pl} (hp:pl[k]?=some p) (h1:p.2.2.1=net) (h2:p.2.2.2.1=false):nth pl net k<(cat (Zg9 net) 0 pl).length:=(List.getElem?_eq_some_iff.1 (ZuF hp h1 h2)).1
def Zpz (b:Zv) (k:Nat):Int:=match (places (Zv.Design b))[k]? with
 | some p=>if p.2.2.2.1=true then 0 else match (Zv.ZlA b)[p.2.2.1.toNat]? with
  | some w=>((QH.ZnH w)[nth (places (Zv.Design b)) p.2.2.1 k]?).getD 0
  | none=>0
 | none=>0
def Zrx (w:QH) (l:List Int):QH:=(QH.Parent w,QH.Res w,QH.Cap w,l,())
def wired (pl:List Pl) (ws:List QH) (nd:Nat→Int):List QH:=cat (fun v w=>[Zrx w ((cat (Zg9 (v:Int)) 0 pl).map (fun k=>nd k.toNat))]) 0 ws
theorem ZpT (pl:List Pl) (ws:List QH) (nd:Nat→Int) (v:Nat):(wired pl ws nd)[v]?=(ws[v]?).map (fun w=>Zrx w ((cat (Zg9 (v:Int)) 0 pl).map (fun k=>nd k.toNat))):=by
 unfold wired
 rw [Zr7,Nat.zero_add]
theorem ZtH (pl:List Pl) (ws:List QH) (nd:Nat→Int):(wired pl ws nd).length=ws.length:=Zra _ _
def Zul (pl:List Pl) (ws:List QH) (nd:Nat→Int) (k:Nat):List QH:=wired (pl.take k) ws nd
theorem Zyw {pl:List Pl} {ws:List QH} {nd:Nat→Int} {k:Nat} {p:Pl} {w:QH} (hp:pl[k]?=some p) (h2:p.2.2.2.1=false) (h0:0≤p.2.2.1) (hw:ws[p.2.2.1.toNat]?=some w) :
  (Zul pl ws nd k)[p.2.2.1.toNat]?=some (Zrx w ((cat (Zg9 p.2.2.1) 0 (pl.take k)).map (fun k=>nd k.toNat)))∧
  (Zul pl ws nd k).set p.2.2.1.toNat (Zrx w ((cat (Zg9 p.2.2.1) 0 (pl.take k)).map (fun k=>nd k.toNat)++[nd k]))=Zul pl ws nd (k+1):=by
 have hk:=(List.getElem?_eq_some_iff.1 hp).1
 have hlt:=(List.getElem?_eq_some_iff.1 hw).1
 unfold Zul
 constructor
 ·rw [ZpT,hw,show ((p.2.2.1.toNat:Nat):Int)=p.2.2.1 by omega]
  rfl
 ·apply List.ext_getElem?
  intro v
  rw [List.getElem?_set,ZpT,ZpT]
  have hs:∀ net:Int,cat (Zg9 net) 0 (pl.take (k+1))=cat (Zg9 net) 0 (pl.take k)++Zg9 net k p:=fun net=>Zkj hp
  split
  ·rename_i e
   subst e
   rw [ZtH,if_pos hlt,hw,hs,show ((p.2.2.1.toNat:Nat):Int)=p.2.2.1 by omega,Zva rfl h2,List.map_append]
   simp only [List.map_cons,List.map_nil,Int.toNat_natCast,Option.map_some]
  ·rename_i e
   congr 1
   funext w'
   congr 1
   rw [hs,Zu9 (fun q=>e (by have:=q.1;omega)),List.append_nil]
theorem Zyv {pl:List Pl} {ws:List QH} {nd:Nat→Int} {k:Nat} {p:Pl} (hp:pl[k]?=some p) (h2:p.2.2.2.1=true):Zul pl ws nd (k+1)=Zul pl ws nd k:=by
 unfold Zul
 apply List.ext_getElem?
 intro v
 rw [ZpT,ZpT]
 congr 1
 funext w'
 congr 1
 rw [Zkj hp,Zu9 (fun q=>by rw [h2] at q;cases q.2),List.append_nil]
/-
  Plain laws: maps by their keys.
-/
abbrev Key:Ty:=.pair (.int .i64) (.pair (.int .i64) .unit)
theorem Zx2 (x y:Key.den):keq Key x y=true↔x=y:=by
 obtain ⟨a,b,⟨⟩⟩:=x
 obtain ⟨c,d,⟨⟩⟩:=y
 simp [keq]
theorem Zxq {k v:Ty} (hk:∀ x y:k.den,keq k x y=true↔x=y) (x z:k.den) (y:v.den):∀ (d:List (k.den×v.den)),Zjr k v (ZkM k v d x y) z=if keq k z x=true then some y else Zjr k v d z
 | []=>by simp only [ZkM,Zjr]
 | e::l=>by
  by_cases h1:keq k x e.1=true
  ·simp only [ZkM,if_pos h1,Zjr]
   by_cases h2:keq k z x=true
   ·simp only [if_pos h2]
   ·have h3:¬keq k z e.1=true:=fun q=>h2 ((hk _ _).2 (((hk _ _).1 q).trans ((hk _ _).1 h1).symm))
    simp only [if_neg h2,if_neg h3]
  ·simp only [ZkM,if_neg h1,Zjr]
   by_cases h3:keq k z e.1=true
   ·have h2:¬keq k z x=true:=fun q=>h1 ((hk _ _).2 (((hk _ _).1 q).symm.trans ((hk _ _).1 h3)))
    simp only [if_pos h3,if_neg h2]
   ·simp only [if_neg h3,Zxq hk x z y l]
theorem Zxr {v:Ty} (d:List (Key.den×v.den)) (x:Key.den) (y:v.den):Zjr Key v (ZkM Key v d x y) x=some y:=by
 rw [Zxq Zx2,if_pos ((Zx2 _ _).2 rfl)]
theorem Zwz {v:Ty} (d:List (Key.den×v.den)) {x z:Key.den} (y:v.den) (h:z≠x):Zjr Key v (ZkM Key v d x y) z=Zjr Key v d z:=by
 rw [Zxq Zx2,if_neg (fun q=>h ((Zx2 _ _).1 q))]
/-
  Plain laws: nodes by keys against nodes by places; kept when a place is put on another net, when an instance is added or removed.
-/
abbrev ZvD:=List (Key.den×(Ty.int .i64).den)
def ZyQ (p:Pl):Key.den:=(p.1,p.2.1,())
def Maps (nodes:ZvD) (pl:List Pl) (nd:Nat→Int):Prop:=∀ (k:Nat) (p:Pl),pl[k]?=some p→p.2.2.2.1=false→Zjr Key (.int .i64) nodes (ZyQ p)=some (nd k)
theorem ZyR {d:Zp} {k k':Nat} {p p':Pl} (hp:(places d)[k]?=some p) (hp':(places d)[k']?=some p') (h:ZyQ p=ZyQ p'):k=k':=by
 unfold ZyQ at h
 injection h with h1 h2
 injection h2 with h2 _
 exact key_inj hp hp' h1 h2
theorem Maps.put {nodes:ZvD} {d:Zp} {nd:Nat→Int} (h:Maps nodes (places d) nd) {k0:Nat} {p0:Pl} (hp0:(places d)[k0]?=some p0) (v:Int):Maps (ZkM Key (.int .i64) nodes (ZyQ p0) v) (places d) (fun k=>if k=k0 then v else nd k):=by
 intro k p hp hd
 by_cases e:k=k0
 ·subst e
  rw [hp0] at hp
  injection hp with hp
  subst hp
  simp only [if_true]
  exact Zxr _ _ _
 ·simp only [if_neg e]
  rw [Zwz _ _ (fun q=>e (ZyR hp hp0 q))]
  exact h k p hp hd
theorem Maps.set {nodes:ZvD} {pl:List Pl} {nd:Nat→Int} (h:Maps nodes pl nd) {k0:Nat} {p0:Pl} (hp0:pl[k0]?=some p0) (n:Int):Maps nodes (pl.set k0 (p0.1,p0.2.1,n,p0.2.2.2.1,())) nd:=by
 intro k p hp hd
 by_cases e:k0=k
 ·subst e
  rw [List.getElem?_set_self (List.getElem?_eq_some_iff.1 hp0).1] at hp
  injection hp with hp
  subst hp
  exact h k0 p0 hp0 hd
 ·rw [List.getElem?_set_ne e] at hp
  exact h k p hp hd
def addInst (d:Zp) (x:Zz) (s:List UInt8):Zp:=(Zp.Instances d++[x],Zp.Zbh d++[s],Zp.Vk d,())
theorem Zt4 (d:Zp) (x:Zz) (s:List UInt8):places (addInst d x s)=cat ZeJ 0 (Zp.Instances d)++ZeJ (Zp.Instances d).length x++cat ZdA 0 (Zp.Vk d):=by
 unfold places addInst
 show cat ZeJ 0 (Zp.Instances d++[x])++_=_
 rw [ZeE,Nat.zero_add]
 simp only [cat,List.append_nil]
theorem ZwH {d:Zp} {x:Zz} {s:List UInt8} {k:Nat} (hk:k<Zpg d):(places (addInst d x s))[k]?=(places d)[k]?:=by
 rw [Zt4,List.append_assoc,List.getElem?_append_left hk]
 unfold places
 rw [List.getElem?_append_left hk]
theorem add_mid {d:Zp} {x:Zz} {s:List UInt8} {j:Nat} (hj:j<(Zz.Zbh x).length):(places (addInst d x s))[Zpg d+j]?=(ZeJ (Zp.Instances d).length x)[j]?:=by
 rw [Zt4,List.append_assoc,List.getElem?_append_right (by unfold Zpg;omega),show Zpg d+j-(cat ZeJ 0 (Zp.Instances d)).length=j by unfold Zpg;omega,List.getElem?_append_left (by rw [Zp1];exact hj)]
theorem ZvO {d:Zp} {x:Zz} {s:List UInt8} {k:Nat} (hk:Zpg d≤k):(places (addInst d x s))[k+(Zz.Zbh x).length]?=(places d)[k]?:=by
 have h1:(cat ZeJ 0 (Zp.Instances d)).length≤k:=hk
 rw [Zt4,List.getElem?_append_right (by rw [List.length_append,Zp1];omega),List.length_append,Zp1]
 unfold places
 rw [List.getElem?_append_right h1]
 congr 1
 omega
def Zxs (nd:Nat→Int) (m:Nat) (v:Int) (k:Nat):Int:=if k<m then nd k else if k=m then v else if k=m+1 then 0 else nd (k-2)
theorem Maps.add {nodes:ZvD} {d:Zp} {nd:Nat→Int} (h:Maps nodes (places d) nd) {x:Zz} {s:List UInt8} (h2:(Zz.Zbh x).length=2) (hi:(Zp.Instances d).length≤1048576) (v:Int) :
  Maps (ZkM Key (.int .i64) nodes (((Zp.Instances d).length:Int),0,()) v) (places (addInst d x s)) (Zxs nd (Zpg d) v):=by
 intro k p hp hd
 have other:∀ (k':Nat),(places d)[k']?=some p→Zjr Key (.int .i64) (ZkM Key (.int .i64) nodes (((Zp.Instances d).length:Int),0,()) v) (ZyQ p)=Zjr Key (.int .i64) nodes (ZyQ p):=by
  intro k' hp'
  refine Zwz _ _ (fun q=>?_)
  unfold ZyQ at q
  injection q with q1 _
  rcases Zqo hp' with ⟨i,j,y,n,hy,_,_,rfl⟩ | ⟨j,q',_,_,rfl⟩
  ·have:=(List.getElem?_eq_some_iff.1 hy).1
   simp only [ZrW] at q1
   omega
  ·simp only at q1
   omega
 unfold Zxs
 by_cases k1:k<Zpg d
 ·rw [if_pos k1]
  rw [ZwH k1] at hp
  rw [other k hp]
  exact h k p hp hd
 ·rw [if_neg k1]
  by_cases k2:k=Zpg d
  ·rw [if_pos k2]
   have h3:=add_mid (d:=d) (x:=x) (s:=s) (j:=0) (by omega)
   rw [Nat.add_zero,←k2,hp] at h3
   have h4:(Zz.Zbh x)[0]?=some (Zz.Zbh x)[0]:=List.getElem?_eq_getElem (by omega)
   rw [Zsj h4] at h3
   injection h3 with h3
   rw [h3]
   exact Zxr _ _ _
  ·rw [if_neg k2]
   by_cases k3:k=Zpg d+1
   ·-- it drives
    exfalso
    have h3:=add_mid (d:=d) (x:=x) (s:=s) (j:=1) (by omega)
    rw [←k3,hp] at h3
    have h4:(Zz.Zbh x)[1]?=some (Zz.Zbh x)[1]:=List.getElem?_eq_getElem (by omega)
    rw [Zsj h4] at h3
    injection h3 with h3
    rw [h3] at hd
    simp only [ZrW,h2,decide_eq_false_iff_not] at hd
    exact hd (by rw [XD (by omega) (by omega)];rfl)
   ·rw [if_neg k3]
    have h3:=ZvO (d:=d) (x:=x) (s:=s) (k:=k-2) (by omega)
    rw [h2,show k-2+2=k by omega,hp] at h3
    rw [other (k-2) h3.symm]
    exact h (k-2) p h3.symm hd
def Zpx (d:Zp):Zp:=((Zp.Instances d).take ((Zp.Instances d).length-1),(Zp.Zbh d).take ((Zp.Zbh d).length-1),Zp.Vk d,())
theorem Zxd {d:Zp} {x:Zz} (hn:0<(Zp.Instances d).length) (hx:(Zp.Instances d)[(Zp.Instances d).length-1]?=some x):Zp.Instances d=Zp.Instances (Zpx d)++[x]:=by
 show Zp.Instances d=(Zp.Instances d).take ((Zp.Instances d).length-1)++[x]
 rw [←JI hx,show (Zp.Instances d).length-1+1=(Zp.Instances d).length by omega,List.take_length]
theorem ZuE {d:Zp} {x:Zz} {s:List UInt8} (hn:0<(Zp.Instances d).length) (hx:(Zp.Instances d)[(Zp.Instances d).length-1]?=some x):places d=places (addInst (Zpx d) x s):=by
 unfold places
 show cat ZeJ 0 (Zp.Instances d)++cat ZdA 0 (Zp.Vk d)=cat ZeJ 0 (Zp.Instances (Zpx d)++[x])++cat ZdA 0 (Zp.Vk d)
 rw [←Zxd hn hx]
def Zxt (nd:Nat→Int) (m:Nat) (k:Nat):Int:=if k<m then nd k else nd (k+2)
theorem Maps.cut {nodes:ZvD} {d:Zp} {nd:Nat→Int} (h:Maps nodes (places d) nd) {x:Zz} (hn:0<(Zp.Instances d).length) (hx:(Zp.Instances d)[(Zp.Instances d).length-1]?=some x) (h2:(Zz.Zbh x).length=2) :
  Maps nodes (places (Zpx d)) (Zxt nd (Zpg (Zpx d))):=by
 rw [ZuE (s:=[]) hn hx] at h
 intro k p hp hd
 unfold Zxt
 by_cases k1:k<Zpg (Zpx d)
 ·rw [if_pos k1]
  exact h k p (by rw [ZwH k1];exact hp) hd
 ·rw [if_neg k1]
  have h3:=ZvO (d:=Zpx d) (x:=x) (s:=[]) (k:=k) (by omega)
  rw [h2,hp] at h3
  exact h (k+2) p h3 hd
/-
  Plain laws: the map of nodes, place by place; lists of nodes.
-/
def Zrw (pl:List Pl) (f:Nat→Int):Nat→ZvD
 | 0=>[]
 | k+1=>match pl[k]? with
  | some p=>if p.2.2.2.1=true then Zrw pl f k else ZkM Key (.int .i64) (Zrw pl f k) (ZyQ p) (f k)
  | none=>Zrw pl f k
theorem ZwL {pl:List Pl} {f:Nat→Int} {k:Nat} {p:Pl} (hp:pl[k]?=some p) (h:p.2.2.2.1=true):Zrw pl f (k+1)=Zrw pl f k:=by
 simp only [Zrw,hp,h,if_true]
theorem Zxv {pl:List Pl} {f:Nat→Int} {k:Nat} {p:Pl} (hp:pl[k]?=some p) (h:¬p.2.2.2.1=true):Zrw pl f (k+1)=ZkM Key (.int .i64) (Zrw pl f k) (ZyQ p) (f k):=by
 simp only [Zrw,hp,h,if_false]
 rfl
theorem Zu8 (d:Zp) (f:Nat→Int):∀ (k:Nat),k≤(places d).length→∀ (j:Nat) (p:Pl),j<k→(places d)[j]?=some p→p.2.2.2.1=false→Zjr Key (.int .i64) (Zrw (places d) f k) (ZyQ p)=some (f j)
 | 0,_,j,p,hj,_,_=>by omega
 | k+1,hk,j,p,hj,hp,hd=>by
  have hq:(places d)[k]?=some (places d)[k]:=List.getElem?_eq_getElem (by omega)
  generalize (places d)[k]=q at hq
  by_cases hqd:q.2.2.2.1=true
  ·rw [ZwL hq hqd]
   refine Zu8 d f k (by omega) j p ?_ hp hd
   by_cases e:j=k
   ·subst e
    rw [hp] at hq
    injection hq with hq
    subst hq
    rw [hqd] at hd;cases hd
   ·omega
  ·rw [Zxv hq hqd]
   by_cases e:j=k
   ·subst e
    rw [hp] at hq
    injection hq with hq
    subst hq
    exact Zxr _ _ _
   ·rw [Zwz _ _ (fun h=>e (ZyR hp hq h))]
    exact Zu8 d f k (by omega) j p (by omega) hp hd
theorem ZuD (d:Zp) (f:Nat→Int):Maps (Zrw (places d) f (places d).length) (places d) f:=fun k p hp hd=>Zu8 d f _ (Nat.le_refl _) k p (List.getElem?_eq_some_iff.1 hp).1 hp hd
def Zxu (l:List Int) (k:Nat):Int:=(l[k]?).getD 0
theorem Zx3 {l:List Int} {i:Nat} {v:Int} (hi:i<l.length) (k:Nat):Zxu (l.set i v) k=if k=i then v else Zxu l k:=by
 unfold Zxu
 rw [List.getElem?_set]
 by_cases e:i=k
 ·subst e;rw [if_pos rfl,if_pos hi,if_pos rfl];rfl
 ·rw [if_neg e,if_neg (fun q=>e q.symm)]
theorem ZzV {l:List Int} {m:Nat} (hm:m≤l.length) (v:Int) (k:Nat):Zxu (l.take m++[v,0]++l.drop m) k=Zxs (Zxu l) m v k:=by
 unfold Zxu Zxs
 have hl:(l.take m).length=m:=by rw [List.length_take];omega
 by_cases k1:k<m
 ·rw [if_pos k1,List.append_assoc,List.getElem?_append_left (by omega),List.getElem?_take,if_pos k1]
 ·rw [if_neg k1]
  by_cases k2:k=m
  ·rw [if_pos k2,List.append_assoc,List.getElem?_append_right (by omega),hl,k2,Nat.sub_self];rfl
  ·rw [if_neg k2]
   by_cases k3:k=m+1
   ·rw [if_pos k3,List.append_assoc,List.getElem?_append_right (by omega),hl,k3,show m+1-m=1 by omega];rfl
   ·rw [if_neg k3,List.getElem?_append_right (by rw [List.length_append,hl,List.length_cons,List.length_singleton];omega),List.length_append,hl,List.length_cons,List.length_singleton,List.getElem?_drop]
    congr 2
    omega
theorem ZzU {l:List Int} {m:Nat} (hm:m+2≤l.length) (k:Nat):Zxu (l.take m++l.drop (m+2)) k=Zxt (Zxu l) m k:=by
 unfold Zxu Zxt
 have hl:(l.take m).length=m:=by rw [List.length_take];omega
 by_cases k1:k<m
 ·rw [if_pos k1,List.getElem?_append_left (by omega),List.getElem?_take,if_pos k1]
 ·rw [if_neg k1,List.getElem?_append_right (by omega),hl,List.getElem?_drop]
  congr 2
  omega
/-
  Plain laws: what edits make of designs, of nodes by place.
-/
theorem Zx0 {d:Zp} {x:Zz} {s:List UInt8} {a b n:Int} (ha:a<((Zp.Instances d).length:Int)):conn (addInst d x s) a b n=addInst (conn d a b n) x s:=by
 unfold conn
 by_cases h:a<0
 ·rw [if_pos h,if_pos h];rfl
 ·rw [if_neg h,if_neg h]
  have hlt:a.toNat<(Zp.Instances d).length:=by omega
  have hy:=List.getElem?_eq_getElem hlt
  generalize (Zp.Instances d)[a.toNat]=y at hy
  have e:(Zp.Instances (addInst d x s))[a.toNat]?=some y:=by
   show (Zp.Instances d++[x])[a.toNat]?=some y
   rw [List.getElem?_append_left hlt];exact hy
  rw [e,hy]
  have e2:List.set (Zp.Instances (addInst d x s)) a.toNat (ZrQ y b.toNat n)=(Zp.Instances d).set a.toNat (ZrQ y b.toNat n)++[x]:=by
   show List.set (Zp.Instances d++[x]) a.toNat _=_
   rw [List.set_append,if_pos hlt]
  show (List.set (Zp.Instances (addInst d x s)) a.toNat (ZrQ y b.toNat n),_)=_
  rw [e2]
  rfl
theorem ZpC {d:Zp} {a b n:Int}:(Zp.Instances (conn d a b n)).length=(Zp.Instances d).length:=by
 unfold conn
 split
 ·rfl
 ·show (match (Zp.Instances d)[a.toNat]? with | some x=>(Zp.Instances d).set a.toNat (ZrQ x b.toNat n) | none=>Zp.Instances d).length=_
  split
  ·rw [List.length_set]
  ·rfl
theorem ZpO {d:Zp} {a b n:Int}:Zp.Zbh (conn d a b n)=Zp.Zbh d:=by
 unfold conn
 split<;>rfl
theorem ZuB {d:Zp} {a b n:Int}:(Zp.Vk (conn d a b n)).length=(Zp.Vk d).length:=by
 unfold conn
 split
 ·show (match (Zp.Vk d)[b.toNat]? with | some x=>(Zp.Vk d).set b.toNat (setPort x n) | none=>Zp.Vk d).length=_
  split
  ·rw [List.length_set]
  ·rfl
 ·rfl
theorem Zs5 {d:Zp} {a b n:Int} {i:Nat} {y:Zz} (hy:(Zp.Instances (conn d a b n))[i]?=some y):∃ x,(Zp.Instances d)[i]?=some x∧Zz.Name y=Zz.Name x∧Zz.Cell y=Zz.Cell x∧(Zz.Zbh y).length=(Zz.Zbh x).length∧((i:Int)≠a→y=x)∧∀ m∈Zz.Zbh y,m∈Zz.Zbh x∨m=n:=by
 unfold conn at hy
 split at hy
 ·exact ⟨y,hy,rfl,rfl,rfl,fun _=>rfl,fun m hm=>.inl hm⟩
 ·rename_i h
  have hy:(match (Zp.Instances d)[a.toNat]? with | some x=>(Zp.Instances d).set a.toNat (ZrQ x b.toNat n) | none=>Zp.Instances d)[i]?=some y:=hy
  split at hy
  ·rename_i x hx
   rw [List.getElem?_set] at hy
   split at hy
   ·rename_i e
    split at hy
    ·injection hy with hy
     subst hy
     refine ⟨x,by rw [←e];exact hx,rfl,rfl,List.length_set,fun q=>absurd (by omega) q,fun m hm=>?_⟩
     rcases List.mem_or_eq_of_mem_set hm with hm | hm
     ·exact .inl hm
     ·exact .inr hm
    ·cases hy
   ·exact ⟨y,hy,rfl,rfl,rfl,fun _=>rfl,fun m hm=>.inl hm⟩
  ·exact ⟨y,hy,rfl,rfl,rfl,fun _=>rfl,fun m hm=>.inl hm⟩
theorem Few.conn {d:Zp} (h:Few d) (a b n:Int):Few (conn d a b n):=by
 refine ⟨by rw [ZpC];exact h.insts,by rw [ZuB];exact h.ports,fun y hy=>?_⟩
 obtain ⟨i,hi⟩:=List.getElem?_of_mem hy
 obtain ⟨x,hx,_,_,hl,_⟩:=Zs5 hi
 rw [hl]
 exact h.nets x (List.mem_of_getElem? hx)
theorem Few.add {d:Zp} (h:Few d) (h13:(Zp.Instances d).length≤13) {x:Zz} (hx:(Zz.Zbh x).length≤5) (s:List UInt8):Few (addInst d x s):=by
 refine ⟨?_,h.ports,fun y hy=>?_⟩
 ·show (Zp.Instances d++[x]).length≤14
  rw [List.length_append,List.length_singleton];omega
 ·rcases List.mem_append.1 (show y∈Zp.Instances d++[x] from hy) with hy | hy
  ·exact h.nets y hy
  ·rw [List.mem_singleton] at hy
   subst hy;exact hx
theorem Few.cut {d:Zp} (h:Few d):Few (Zpx d):=by
 refine ⟨?_,h.ports,fun y hy=>h.nets y (List.mem_of_mem_take (show y∈(Zp.Instances d).take _ from hy))⟩
 show ((Zp.Instances d).take _).length≤14
 rw [List.length_take]
 have:=h.insts
 omega
def Zvt (pl:List Pl) (n:Nat):Prop:=∀ p∈pl,p.2.2.2.1=false→0≤p.2.2.1∧p.2.2.1<(n:Int)
theorem Zvt.set {pl:List Pl} {n:Nat} (h:Zvt pl n) {k0:Nat} {p0:Pl} {m:Int} (h0:0≤m) (h1:m<(n:Int)):Zvt (pl.set k0 (p0.1,p0.2.1,m,p0.2.2.2.1,())) n:=by
 intro p hp hd
 rcases List.mem_or_eq_of_mem_set hp with hp | hp
 ·exact h p hp hd
 ·subst hp;exact ⟨h0,h1⟩
def swapped (b:Zv) (i:Int) (c:Int):Zv:=(Zv.Library b,(match (Zp.Instances (Zv.Design b))[i.toNat]? with
 | some x=>(Zp.Instances (Zv.Design b)).set i.toNat (Zz.Name x,c,Zz.Zbh x,())
 | none=>Zp.Instances (Zv.Design b),Zp.Zbh (Zv.Design b),Zp.Vk (Zv.Design b),()),Zv.ZlA b,())
def mvD (b:Zv) (p:Pl) (n:Int):Zp:=conn (Zv.Design b) p.1 p.2.1 n
def mvN (b:Zv) (k:Nat) (v:Int) (j:Nat):Int:=if j=k then v else Zpz b j
def moved (b:Zv) (k:Nat) (p:Pl) (n v:Int):Zv:=(Zv.Library b,mvD b p n,wired (places (mvD b p n)) (Zv.ZlA b) (mvN b k v),())
abbrev ZxK:QH:=([-1],[0],[0],[],())
def Zum (b:Zv) (e:Zbk) (p:Pl):Zz:=(Zbk.Name e,Zbk.Cell e,[p.2.2.1,((Zp.Zbh (Zv.Design b)).length:Int)],())
def ZtC (b:Zv) (e:Zbk) (p:Pl):Zp:=addInst (conn (Zv.Design b) p.1 p.2.1 ((Zp.Zbh (Zv.Design b)).length:Int)) (Zum b e p) (Zbk.Name e)
def ZvE (b:Zv) (k:Nat):Nat:=if k<Zpg (Zv.Design b) then k else k+2
def Zyy (b:Zv) (k:Nat) (j:Nat):Int:=if j=ZvE b k then 0 else Zxs (Zpz b) (Zpg (Zv.Design b)) (Zpz b k) j
def buffered (b:Zv) (e:Zbk) (k:Nat) (p:Pl):Zv:=(Zv.Library b,ZtC b e p,wired (places (ZtC b e p)) (Zv.ZlA b++[ZxK]) (Zyy b k),())
def unD (b:Zv) (p:Pl) (m:Int):Zp:=Zpx (conn (Zv.Design b) p.1 p.2.1 m)
def unN (b:Zv) (k:Nat):Nat→Int:=Zxt (mvN b k (Zpz b (Zpg (Zv.Design b)-2))) (Zpg (Zv.Design b)-2)
def ZpS (b:Zv) (k:Nat) (p:Pl) (m:Int):Zv:=(Zv.Library b,unD b p m,wired (places (unD b p m)) ((Zv.ZlA b).take ((Zv.ZlA b).length-1)) (unN b k),())
def Zy5 (b:Zv) (n:Int) (w:QH):Zv:=(Zv.Library b,Zv.Design b,(Zv.ZlA b).set n.toNat w,())
/-
  Plain laws: clones are what they are made of.
-/
theorem Zc0 {α:Type} {l:List α} {k:Nat} {x:α} (hx:l[k]?=some x):l.set k x=l:=by
 apply List.ext_getElem?
 intro j
 rw [List.getElem?_set]
 split
 ·rename_i e;subst e
  rw [if_pos (List.getElem?_eq_some_iff.1 hx).1,hx]
 ·rfl
theorem Zsd (l:List Int) (h:l.length≤1048576):Zpk l=some l:=by
 unfold Zpk
 rw [ZB (by rw [List.length_nil];omega)];rfl
theorem Zte (l:List Int) (h:l.length≤1048576):XT l=some l:=by
 unfold XT
 rw [ZB (by rw [List.length_nil];omega)];rfl
theorem Zr2 (w:QH) (hw:sm ZjY w):Zrt w=some w:=by
 obtain ⟨a1,a2,a3,a4⟩:=Zv3 hw
 unfold Zrt
 rw [Zsd _ (Zo9 a1),Bq,Zsd _ (Zo9 a2),Bq,Zsd _ (Zo9 a3),Bq,Zsd _ (Zo9 a4),Bq]
theorem Zvd (w:QH) (hw:sm ZjY w):Zsc w=some w:=by
 obtain ⟨a1,a2,a3,a4⟩:=Zv3 hw
 unfold Zsc
 rw [Zte _ (Zo9 a1),Bq,Zte _ (Zo9 a2),Bq,Zte _ (Zo9 a3),Bq,Zte _ (Zo9 a4),Bq]
theorem Zvm (d:Zp) (hd:sm ZdN d):ZqL d=some d:=by
 obtain ⟨s1,s2,s3⟩:=Zrk hd
 have l1:=Zo9 s1
 have l2:=Zo9 s2
 have l3:=Zo9 s3
 unfold ZqL ZpP ZqR Zqg
 rw [ZB (by rw [List.length_nil];omega),Bq,ZB (by rw [List.length_nil];omega),Bq,ZB (by rw [List.length_nil];omega),Bq]
 simp only [List.nil_append]
 refine ZgW (l:=Zp.Instances d) (fun k=>((k:Int),(Zp.Instances d,(k:Int)),())) (fun k x hx hk=>?_) ?_
 ·have hx2:=Zsd (Zz.Zbh x) (Zo9 (ZuV (ZqC s1 hx)).2)
  simp only [Zqd,show (k:Int)<((Zp.Instances d).length:Int) by omega,if_true,VU,hx,Bq,Int.le_refl,hx2,ZB trivial,Zkd (show k≤1048576 by omega),Int.toNat_natCast]
  rw [show List.set (Zp.Instances d) k (Zz.Name x,Zz.Cell x,Zz.Zbh x,())=Zp.Instances d from Zc0 hx]
  rfl
 ·simp only [Zqd,Int.lt_irrefl,if_false,ZB trivial]
theorem Zuc (l:List Jy) (hl:sm (.sl ZdQ) l):ZrO l=some l:=by
 have h1:=Zo9 hl
 unfold ZrO
 have:=ZgW (l:=l) (fun k=>(l.take k,(k:Int),())) (step:=fun v=>ZqZ l v.1 v.2.1) (good:=l) (fun k x hx hk=>by
  have hs:sm ZdQ x:=ZqC hl hx
  have e1:=Zsd (Jy.ZoG x) (Zo9 (t:=.int .i64) hs.1)
  have e2:=Zsd (Jy.Loads x) (Zo9 (t:=.int .i64) hs.2.1)
  have e3:=Zsd (Jy.Values x) (Zo9 (t:=.int .i64) hs.2.2.1)
  have hg:((l.take k).length+[(Jy.ZoG x,Jy.Loads x,Jy.Values x,())].length)*72≤140737488355328:=by rw [List.length_take,List.length_singleton];omega
  simp only [ZqZ,show (k:Int)<(l.length:Int) by omega,if_true,VU,hx,Bq,e1,e2,e3,ZB hg,Zkd (show k≤1048576 by omega)]
  rw [JI hx]) (by
  simp only [ZqZ,Int.lt_irrefl,if_false,List.take_length])
 simpa using this
theorem Zvp (a:ZaF) (ha:sm Zc3 a):ZqN a=some a:=by
 have hc:=Zw1 ha
 have h1:=Zo9 hc
 unfold ZqN
 have:=ZgW (l:=ZaF.Cells a) (fun k=>((k:Int),(ZaF.Cells a).take k,())) (step:=fun v=>ZpU a v.1 v.2.1) (good:=a) (fun k x hx hk=>by
  have hs:sm Zin x:=ZqC hc hx
  have p1:sm (.sl Zl9) (QG.ZoY x):=hs.2.2.1
  have p2:sm (.sl Zmv) (QG.ZoW x):=hs.2.2.2.1
  have p3:sm (.sl (.int .i64)) (QG.Truth x):=hs.2.2.2.2.1
  have l1:=Zo9 p1
  have l2:=Zo9 p2
  have l3:=Zo9 p3
  simp only [ZpU,show (k:Int)<((ZaF.Cells a).length:Int) by omega,if_true,VU,hx,Bq]
  unfold Zqq Zqp
  rw [ZB (by rw [List.length_nil];omega),Bq,Zsd _ l3,Bq,ZB (by rw [List.length_nil];omega),Bq]
  simp only [List.nil_append]
  have hg:∀ y:QG,(((ZaF.Cells a).take k).length+[y].length)*112≤140737488355328:=fun y=>by rw [List.length_take,List.length_singleton];omega
  refine ZgW (l:=QG.ZoW x) (fun j=>((j:Int),(QG.ZoW x,(j:Int)),())) (fun j y hy hj=>?_) ?_
  ·obtain ⟨q1,q2⟩:=Zz1 (ZqC p2 hy)
   simp only [Zqe,show (j:Int)<((QG.ZoW x).length:Int) by omega,if_true,VU,hy,Bq,Int.le_refl,Zuc _ q1,Zuc _ q2,ZB trivial,Zkd (show j≤1048576 by omega),Int.toNat_natCast]
   rw [show List.set (QG.ZoW x) j (ZfN.Kind y,ZfN.From y,ZfN.To y,ZfN.ZoE y,ZfN.Delay y,ZfN.Znd y,())=QG.ZoW x from Zc0 hy]
   rfl
  ·simp only [Zqe,Int.lt_irrefl,if_false,ZB trivial,ZB (hg _),Zkd (show k≤1048576 by omega)]
   rw [JI hx]) (by
  simp only [ZpU,Int.lt_irrefl,if_false,List.take_length])
 simpa using this
theorem Zp4 (b:Zv) (hb:sm ZjX b):ZrM b=some b:=by
 obtain ⟨b1,b2,b3⟩:=Zrd hb
 have h1:=Zo9 b3
 unfold ZrM
 rw [Zvp _ b1,Bq,Zvm _ b2,Bq]
 have:=ZgW (l:=Zv.ZlA b) (fun k=>((k:Int),(Zv.ZlA b).take k,())) (step:=fun v=>ZqW b (Zv.Library b) (Zv.Design b) v.1 v.2.1) (good:=b) (fun k x hx hk=>by
  have hg:(((Zv.ZlA b).take k).length+[x].length)*96≤140737488355328:=by rw [List.length_take,List.length_singleton];omega
  simp only [ZqW,show (k:Int)<((Zv.ZlA b).length:Int) by omega,if_true,VU,hx,Bq,Zr2 x (ZqC b3 hx),ZB hg,Zkd (show k≤1048576 by omega)]
  rw [JI hx]) (by
  simp only [ZqW,Int.lt_irrefl,if_false,List.take_length])
 simpa using this
/-
  Plain laws: the nodes of all sinks, by key (program) and by place (reference).
-/
theorem ZAp {pl:List Pl} {k:Nat} {p:Pl} (hp:pl[k]?=some p) (h2:p.2.2.2.1=false):nth pl p.2.2.1 (k+1)=nth pl p.2.2.1 k+1:=by
 unfold nth
 rw [Zkj hp,Zva rfl h2,List.length_append,List.length_singleton]
theorem ZAf {pl:List Pl} {net:Int} {k:Nat} {p:Pl} (hp:pl[k]?=some p) (h:¬(p.2.2.1=net∧p.2.2.2.1=false)):nth pl net (k+1)=nth pl net k:=by
 unfold nth
 rw [Zkj hp,Zu9 h,List.append_nil]
def seen (pl:List Pl) (n k:Nat):List Int:=(List.range n).map (fun (v:Nat)=>((nth pl (v:Int) k:Nat):Int))
theorem Zw7 {pl:List Pl} {n k v:Nat} (hv:v<n):(seen pl n k)[v]?=some ((nth pl (v:Int) k:Nat):Int):=by
 unfold seen
 rw [List.getElem?_map,List.getElem?_range hv];rfl
theorem ZzE (pl:List Pl) (n:Nat):List.replicate n (0:Int)=seen pl n 0:=by
 apply List.ext_getElem?
 intro v
 by_cases hv:v<n
 ·rw [Zw7 hv,List.getElem?_replicate,if_pos hv]
  unfold nth
  simp [cat]
 ·rw [List.getElem?_eq_none (by simp;omega),List.getElem?_eq_none (by unfold seen;simp;omega)]
theorem Zz0 {pl:List Pl} {n k:Nat} {p:Pl} (hp:pl[k]?=some p) (h2:p.2.2.2.1=false) (h0:0≤p.2.2.1) (h1:p.2.2.1<(n:Int)):(seen pl n k).set p.2.2.1.toNat (((nth pl p.2.2.1 k+1:Nat):Int))=seen pl n (k+1):=by
 apply List.ext_getElem?
 intro v
 by_cases hv:v<n
 ·rw [List.getElem?_set,Zw7 hv,Zw7 hv]
  split
  ·rename_i e
   rw [if_pos (by unfold seen;simp;omega)]
   subst e
   rw [show ((p.2.2.1.toNat:Nat):Int)=p.2.2.1 by omega,ZAp hp h2]
  ·rename_i e
   rw [ZAf hp (fun q=>e (by have:=q.1;omega))]
 ·rw [List.getElem?_eq_none (by unfold seen;simp;omega),List.getElem?_eq_none (by unfold seen;simp;omega)]
theorem ZAq {pl:List Pl} {n k:Nat} {p:Pl} (hp:pl[k]?=some p) (h2:p.2.2.2.1=true):seen pl n (k+1)=seen pl n k:=by
 unfold seen
 apply List.map_congr_left
 intro v _
 rw [ZAf hp (fun q=>by rw [h2] at q;cases q.2)]
theorem Zx4 {b:Zv} (h:ZqJ b) {k:Nat} {p:Pl} (hp:(places (Zv.Design b))[k]?=some p) (h2:p.2.2.2.1=false) :
  ∃ w,atI (Zv.ZlA b) p.2.2.1=some w∧(Zv.ZlA b)[p.2.2.1.toNat]?=some w∧atI (QH.ZnH w) ((nth (places (Zv.Design b)) p.2.2.1 k:Nat):Int)=some (Zpz b k)∧ZrY w ((sinks (Zv.Design b) p.2.2.1).length:Int):=by
 have hn:=Zp0 h.ok.1 (List.mem_of_getElem? hp)
 obtain ⟨w,hw1,hw2,hw3⟩:=ZtN h hn
 have hlt:=ZzA hp rfl h2
 have hs:=hw3.2.2.2.1
 have hlt2:nth (places (Zv.Design b)) p.2.2.1 k<(QH.ZnH w).length:=by
  have:(sinks (Zv.Design b) p.2.2.1).length=(cat (Zg9 p.2.2.1) 0 (places (Zv.Design b))).length:=rfl
  omega
 refine ⟨w,hw2,hw1,?_,hw3⟩
 rw [VU]
 have e:Zpz b k=((QH.ZnH w)[nth (places (Zv.Design b)) p.2.2.1 k]?).getD 0:=by
  unfold Zpz
  simp only [hp,h2,hw1]
  rfl
 rw [e,List.getElem?_eq_getElem hlt2]
 rfl
theorem Zr9 {b:Zv} (h:ZqJ b):Zqc b=some (Zrw (places (Zv.Design b)) (Zpz b) (places (Zv.Design b)).length):=by
 have hf:=h.ok.1.few
 have hpl:=Zck hf
 have h30:=h.ok.1.2.1.2.1
 have hwn:=h.ok.2.1
 have hwl:(Zv.ZlA b).length≤1048576:=Zo9 (Zrd h.sm).2.2
 unfold Zqc
 rw [ZB (by omega),ZB (by omega),ZB (by omega),ZB (by omega),Zpj _ hf,Bq,Int.toNat_natCast,ZzE (places (Zv.Design b))]
 refine ZgW (l:=places (Zv.Design b)) (fun k=>((k:Int),Zrw (places (Zv.Design b)) (Zpz b) k,seen (places (Zv.Design b)) (Zv.ZlA b).length k,())) (fun k p hp hk=>?_) ?_
 ·simp only [Zro,show (k:Int)<((places (Zv.Design b)).length:Int) by omega,if_true,VU,hp,Bq,Zkd (show k≤1048576 by omega)]
  have e1:Zbl.drives p=p.2.2.2.1:=rfl
  have e2:Zbl.net p=p.2.2.1:=rfl
  by_cases h2:p.2.2.2.1=true
  ·rw [e1,if_pos h2,ZwL hp h2,ZAq hp h2]
  ·have h2':p.2.2.2.1=false:=by simpa using h2
   obtain ⟨w,hw1,hw2,hw3,hw4⟩:=Zx4 h hp h2'
   have hn:=Zp0 h.ok.1 (List.mem_of_getElem? hp)
   have hv:p.2.2.1<((Zv.ZlA b).length:Int):=by have:=hn.2;omega
   have hs:atI (seen (places (Zv.Design b)) (Zv.ZlA b).length k) p.2.2.1=some ((nth (places (Zv.Design b)) p.2.2.1 k:Nat):Int):=by
    refine Zkf hn.1 ?_
    rw [Zw7 (by have:=hn.1;omega),show ((p.2.2.1.toNat:Nat):Int)=p.2.2.1 by have:=hn.1;omega]
   have hlt:=ZzA hp rfl h2'
   have hlc:=Zgm p.2.2.1 (places (Zv.Design b)) 0
   rw [e1,if_neg h2,e2,hw1,Bq,hs,Bq,hw3,Bq,Zkd (show nth (places (Zv.Design b)) p.2.2.1 k≤1048576 by omega),Zz0 hp h2' hn.1 hv,Zxv hp h2]
   rfl
 ·simp only [Zro,Int.lt_irrefl,if_false]
/-
  Plain laws: the reference's nodes by place.
-/
theorem Zy1 {pl:List Pl} {net:Int}:∀ (n:Nat),n≤pl.length→∀ (i:Nat) (x:Int),(cat (Zg9 net) 0 (pl.take n))[i]?=some x→
  ∃ (k:Nat) (p:Pl),k<n∧pl[k]?=some p∧x=(k:Int)∧p.2.2.1=net∧p.2.2.2.1=false∧nth pl net k=i
 | 0,_,i,x,h=>by simp [cat] at h
 | n+1,hn,i,x,h=>by
  have hp:pl[n]?=some pl[n]:=List.getElem?_eq_getElem (by omega)
  generalize pl[n]=p at hp
  rw [Zkj hp] at h
  by_cases hi:i<(cat (Zg9 net) 0 (pl.take n)).length
  ·rw [List.getElem?_append_left hi] at h
   obtain ⟨k,q,a,r⟩:=Zy1 n (by omega) i x h
   exact ⟨k,q,by omega,r⟩
  ·rw [List.getElem?_append_right (by omega)] at h
   by_cases hs:p.2.2.1=net∧p.2.2.2.1=false
   ·rw [Zva hs.1 hs.2] at h
    have h0:=(List.getElem?_eq_some_iff.1 h).1
    rw [List.length_singleton] at h0
    rw [show i-(cat (Zg9 net) 0 (pl.take n)).length=0 by omega] at h
    injection h with h
    exact ⟨n,p,by omega,hp,h.symm,hs.1,hs.2,by unfold nth;omega⟩
   ·rw [Zu9 hs] at h
    cases h
theorem Zv2 {pl:List Pl} {net:Int} {i:Nat} {x:Int} (h:(cat (Zg9 net) 0 pl)[i]?=some x) :
  ∃ (k:Nat) (p:Pl),pl[k]?=some p∧x=(k:Int)∧p.2.2.1=net∧p.2.2.2.1=false∧nth pl net k=i:=by
 obtain ⟨k,p,_,r⟩:=Zy1 (pl:=pl) (net:=net) pl.length (Nat.le_refl _) i x (by rw [List.take_length];exact h)
 exact ⟨k,p,r⟩
def filled (b:Zv) (P:Nat→Pl→Bool):List Int:=cat (fun k p=>[if P k p=true then Zpz b k else 0]) 0 (places (Zv.Design b))
theorem Zse (b:Zv) (P:Nat→Pl→Bool) (k:Nat):(filled b P)[k]?=((places (Zv.Design b))[k]?).map (fun p=>if P k p=true then Zpz b k else 0):=by
 unfold filled
 rw [Zr7,Nat.zero_add]
theorem Zv8 (b:Zv) (P:Nat→Pl→Bool):(filled b P).length=(places (Zv.Design b)).length:=Zra _ _
theorem ZwI {b:Zv} {P Q:Nat→Pl→Bool} (h:∀ (k:Nat) (p:Pl),(places (Zv.Design b))[k]?=some p→P k p=Q k p):filled b P=filled b Q:=by
 apply List.ext_getElem?
 intro k
 rw [Zse,Zse]
 cases hp:(places (Zv.Design b))[k]? with
 | none=>rfl
 | some p=>simp only [Option.map_some,h k p hp]
def ZzY (v:Nat) (k:Nat) (p:Pl):Bool:=decide (p.2.2.1<(v:Int))&&!p.2.2.2.1
def pIn (b:Zv) (v i:Nat) (k:Nat) (p:Pl):Bool:=!p.2.2.2.1&&(decide (p.2.2.1<(v:Int))||(decide (p.2.2.1=(v:Int))&&decide (nth (places (Zv.Design b)) (v:Int) k<i)))
def ZrC (b:Zv):List Int:=filled b (fun _ _=>true)
theorem Zu6 {b:Zv} {k:Nat} (hk:k<(places (Zv.Design b)).length):(ZrC b)[k]?=some (Zpz b k):=by
 unfold ZrC
 rw [Zse,List.getElem?_eq_getElem hk]
 rfl
theorem Zrv (b:Zv):(ZrC b).length=(places (Zv.Design b)).length:=Zv8 _ _
theorem ZtM {b:Zv} (h:ZqJ b):Zss b=some (ZrC b):=by
 have hf:=h.ok.1.few
 have hpl:=Zck hf
 have h30:=h.ok.1.2.1.2.1
 have hwn:=h.ok.2.1
 have hwl:(Zv.ZlA b).length≤1048576:=Zo9 (Zrd h.sm).2.2
 have first:List.replicate (places (Zv.Design b)).length (0:Int)=filled b (ZzY 0):=by
  apply List.ext_getElem?
  intro k
  rw [Zse,List.getElem?_replicate]
  split
  ·rename_i hk
   have hp:=List.getElem?_eq_getElem hk
   rw [hp]
   have hn:=(Zp0 h.ok.1 (List.mem_of_getElem? hp)).1
   rw [Option.map_some,if_neg]
   unfold ZzY
   simp only [Bool.and_eq_true,decide_eq_true_eq,not_and]
   intro q;omega
  ·rw [List.getElem?_eq_none (by omega)];rfl
 have last:filled b (ZzY (Zv.ZlA b).length)=ZrC b:=by
  apply List.ext_getElem?
  intro k
  unfold ZrC
  rw [Zse,Zse]
  cases hp:(places (Zv.Design b))[k]? with
  | none=>rfl
  | some p =>
   have hn:=(Zp0 h.ok.1 (List.mem_of_getElem? hp)).2
   simp only [Option.map_some,if_true]
   by_cases h2:p.2.2.2.1=true
   ·have:Zpz b k=0:=by unfold Zpz;simp only [hp,h2,if_true]
    simp only [this,ite_self]
   ·rw [if_pos]
    unfold ZzY
    simp only [Bool.and_eq_true,decide_eq_true_eq,Bool.not_eq_true']
    exact ⟨by omega,by simpa using h2⟩
 unfold Zss
 rw [JF _ hf,Bq,ZB (by omega),ZB (by omega),ZB (by omega),ZB (by omega),Int.toNat_natCast,first]
 refine ZgW (l:=Zv.ZlA b) (fun v=>((v:Int),filled b (ZzY v),())) (fun v w hw hv=>?_) ?_
 ·simp only [ZsX,show (v:Int)<((Zv.ZlA b).length:Int) by omega,if_true,ZcT _ _ hf,Bq]
  have e0:filled b (ZzY v)=filled b (pIn b v 0):=ZwI fun k p _=>by unfold ZzY pIn;simp [Bool.and_comm]
  have e1:filled b (pIn b v (sinks (Zv.Design b) (v:Int)).length)=filled b (ZzY (v+1)):=ZwI fun k p hp=>by
   unfold ZzY pIn
   by_cases h2:p.2.2.2.1=true
   ·simp [h2]
   ·have h2':p.2.2.2.1=false:=by simpa using h2
    rw [h2',Bool.not_false,Bool.true_and,Bool.and_true]
    by_cases hq:p.2.2.1=(v:Int)
    ·have hlt:nth (places (Zv.Design b)) (v:Int) k<(sinks (Zv.Design b) (v:Int)).length:=ZzA hp hq h2'
     rw [decide_eq_true hlt,decide_eq_true hq,decide_eq_true (show p.2.2.1<((v+1:Nat):Int) by omega)]
     simp
    ·rw [decide_eq_false hq,Bool.false_and,Bool.or_false]
     exact decide_eq_decide.2 (by omega)
  rw [e0]
  refine ZgW (l:=sinks (Zv.Design b) (v:Int)) (fun i=>((i:Int),filled b (pIn b v i),())) (fun i x hx hi=>?_) ?_
  ·obtain ⟨k,p,hp,ex,hn,h2,hnth⟩:=Zv2 (pl:=places (Zv.Design b)) hx
   obtain ⟨w',hw1,hw2,hw3,hw4⟩:=Zx4 h hp h2
   have hk:=(List.getElem?_eq_some_iff.1 hp).1
   have hlc:=Zgm (v:Int) (places (Zv.Design b)) 0
   have hlc2:(sinks (Zv.Design b) (v:Int)).length≤(places (Zv.Design b)).length:=hlc
   rw [hn,hnth] at hw3
   rw [hn] at hw1
   have hfk:(filled b (pIn b v i))[k]?=some ((filled b (pIn b v i))[k]'(by rw [Zv8];exact hk)):=List.getElem?_eq_getElem _
   simp only [ZsW,show (i:Int)<((sinks (Zv.Design b) (v:Int)).length:Int) by omega,if_true,VU,hx,Bq,←VU (Zv.ZlA b),hw1,←VU (QH.ZnH w'),hw3,Zkd (show i≤1048576 by omega)]
   subst ex
   rw [VU,hfk,Bq,Int.toNat_natCast]
   have:List.set (filled b (pIn b v i)) k (Zpz b k)=filled b (pIn b v (i+1)):=by
    apply List.ext_getElem?
    intro j
    rw [List.getElem?_set,Zv8]
    split
    ·rename_i e
     subst e
     rw [Zse,hp,Option.map_some,if_pos]
     unfold pIn
     rw [h2,hnth]
     simp [hn]
    ·rename_i e
     rw [Zse,Zse]
     cases hq:(places (Zv.Design b))[j]? with
     | none=>rfl
     | some q =>
      have:pIn b v i j q=pIn b v (i+1) j q:=by
       unfold pIn
       by_cases h3:q.2.2.2.1=true
       ·simp [h3]
       ·have h3':q.2.2.2.1=false:=by simpa using h3
        by_cases hqn:q.2.2.1=(v:Int)
        ·have hne:nth (places (Zv.Design b)) (v:Int) j≠i:=by
          intro hh
          have h4:=ZuF hq hqn h3'
          rw [hh] at h4
          have h5:(cat (Zg9 (v:Int)) 0 (places (Zv.Design b)))[i]?=some (k:Int):=hx
          rw [h5] at h4
          injection h4 with h4
          omega
         rw [show decide (nth (places (Zv.Design b)) (v:Int) j<i)=decide (nth (places (Zv.Design b)) (v:Int) j<i+1) from decide_eq_decide.2 (by omega)]
        ·rw [decide_eq_false hqn,Bool.false_and,Bool.false_and]
      rw [Option.map_some,Option.map_some,this]
   rw [this]
  ·simp only [ZsW,Int.lt_irrefl,if_false,Zkd (show v≤1048576 by omega),e1]
 ·simp only [ZsX,Int.lt_irrefl,if_false,last]
/-
  Plain laws: sinks put in anew, a place put on another net, a buffer taken away.
-/
def wip (ws:List QH) (k:Nat):List QH:=cat (fun j w=>[if j<k then Zrx w [] else w]) 0 ws
theorem ZwG (ws:List QH) (k v:Nat):(wip ws k)[v]?=(ws[v]?).map (fun w=>if v<k then Zrx w [] else w):=by
 unfold wip
 rw [Zr7,Nat.zero_add]
theorem ZAt (ws:List QH) (k:Nat):(wip ws k).length=ws.length:=Zra _ _
theorem Zz8 (ws:List QH):wip ws 0=ws:=by
 apply List.ext_getElem?
 intro v
 rw [ZwG]
 simp
theorem ZAs (pl:List Pl) (ws:List QH) (nd:Nat→Int):wip ws ws.length=Zul pl ws nd 0:=by
 apply List.ext_getElem?
 intro v
 unfold Zul
 rw [ZwG,ZpT]
 cases hv:ws[v]? with
 | none=>rfl
 | some w =>
  have:=(List.getElem?_eq_some_iff.1 hv).1
  simp only [Option.map_some,if_pos this,List.take_zero,cat,List.map_nil]
theorem Zz7 {ws:List QH} {k:Nat} {w:QH} (hw:ws[k]?=some w):(wip ws k)[k]?=some w∧(wip ws k).set k (Zrx w [])=wip ws (k+1):=by
 constructor
 ·rw [ZwG,hw];simp
 ·apply List.ext_getElem?
  intro v
  rw [List.getElem?_set,ZAt]
  split
  ·rename_i e
   subst e
   rw [if_pos (List.getElem?_eq_some_iff.1 hw).1,ZwG,hw,Option.map_some,if_pos (by omega)]
  ·rw [ZwG,ZwG]
   congr 1
   funext w'
   by_cases h:v<k
   ·rw [if_pos h,if_pos (by omega)]
   ·rw [if_neg h,if_neg (by omega)]
theorem Zud {b:Zv} {nodes:ZvD} {nd:Nat→Int} (hf:Few (Zv.Design b)) (hm:Maps nodes (places (Zv.Design b)) nd) (hn:Zvt (places (Zv.Design b)) (Zv.ZlA b).length) (hw:(Zv.ZlA b).length≤1048576) :
  Zqb b nodes=some (Zv.Library b,Zv.Design b,wired (places (Zv.Design b)) (Zv.ZlA b) nd,()):=by
 have hpl:=Zck hf
 unfold Zqb
 have:=ZgW (l:=Zv.ZlA b) (fun k=>((k:Int),wip (Zv.ZlA b) k,())) (step:=fun v=>Zqx b nodes v.1 v.2.1) (good:=(Zv.Library b,Zv.Design b,wired (places (Zv.Design b)) (Zv.ZlA b) nd,())) (fun k w hk hlt=>by
  obtain ⟨a1,a2⟩:=Zz7 hk
  simp only [Zqx,show (k:Int)<((Zv.ZlA b).length:Int) by omega,if_true,VU,a1,Bq,Zkd (show k≤1048576 by omega),Int.toNat_natCast]
  rw [←a2]
  rfl) (by
  simp only [Zqx,Int.lt_irrefl,if_false,Zpj _ hf,Bq,ZAs (places (Zv.Design b)) (Zv.ZlA b) nd]
  refine ZgW (l:=places (Zv.Design b)) (fun k=>((k:Int),Zul (places (Zv.Design b)) (Zv.ZlA b) nd k,())) (fun k p hp hk=>?_) ?_
  ·simp only [Zrn,show (k:Int)<((places (Zv.Design b)).length:Int) by omega,if_true,VU,hp,Bq,Zkd (show k≤1048576 by omega)]
   have e1:Zbl.drives p=p.2.2.2.1:=rfl
   have e2:Zbl.net p=p.2.2.1:=rfl
   have e3:Zjr Zmh (Ty.int IntKind.i64) nodes (Zbl.instance p,Zbl.pin p,())=Zjr Key (.int .i64) nodes (ZyQ p):=rfl
   by_cases h2:p.2.2.2.1=true
   ·rw [e1,if_pos h2,Zyv hp h2]
   ·have h2':p.2.2.2.1=false:=by simpa using h2
    obtain ⟨h0,h1⟩:=hn p (List.mem_of_getElem? hp) h2'
    have hwk:(Zv.ZlA b)[p.2.2.1.toNat]?=some ((Zv.ZlA b)[p.2.2.1.toNat]'(by omega)):=List.getElem?_eq_getElem (by omega)
    obtain ⟨w1,w2⟩:=Zyw (nd:=nd) hp h2' h0 hwk
    have hl:=Zgm p.2.2.1 ((places (Zv.Design b)).take k) 0
    rw [e1,if_neg h2,e2,Zkf h0 w1,Bq,e3,hm k p hp h2',ZB (by
     show ((List.map _ _).length+1)*8≤_
     rw [List.length_map]
     rw [List.length_take] at hl
     omega),←w2]
    rfl
  ·simp only [Zrn,Int.lt_irrefl,if_false]
   unfold Zul
   rw [List.take_length])
 rw [Zz8] at this
 exact this
theorem Zty {b:Zv} {k:Nat} {p:Pl} (hp:(places (Zv.Design b))[k]?=some p) (n:Int):ZqK b (p.1,p.2.1,()) n=some (Zv.Library b,conn (Zv.Design b) p.1 p.2.1 n,Zv.ZlA b,()):=by
 unfold ZqK conn
 rcases Zqo hp with ⟨i,j,x,m,hx,hn,e,rfl⟩ | ⟨j,q,hq,e,rfl⟩
 ·have c:¬((i:Int)<0):=by omega
  simp only [ZrW,Ze5.instance,Ze5.pin,if_neg c,VU,hx,Bq,Int.toNat_natCast]
  have hn2:x.2.2.1[j]?=some m:=hn
  rw [hn2]
  rfl
 ·have c:((-1:Int)<0):=by omega
  simp only [Ze5.instance,Ze5.pin,if_pos c,VU,hq,Bq,Int.toNat_natCast]
  rfl
theorem ZvZ {d:Zp} (hn:0<(Zp.Instances d).length) {p:Pl} (h:p∈places (Zpx d)):p∈places d:=by
 have hx:(Zp.Instances d)[(Zp.Instances d).length-1]?=some (Zp.Instances d)[(Zp.Instances d).length-1]:=List.getElem?_eq_getElem (by omega)
 rw [ZuE (s:=[]) hn hx,Zt4]
 unfold places at h
 rcases List.mem_append.1 h with h | h
 ·exact List.mem_append_left _ (List.mem_append_left _ h)
 ·exact List.mem_append_right _ h
theorem Zuz.sink {b:Zv} (h:ZqJ b) (hL:Zuz b):∃ (k:Nat) (p:Pl),sinks (Zv.Design b) (((Zp.Zbh (Zv.Design b)).length:Int)-1)=[(k:Int)]∧(places (Zv.Design b))[k]?=some p∧p.2.2.1=((Zp.Zbh (Zv.Design b)).length:Int)-1∧p.2.2.2.1=false∧p.1≠((Zp.Instances (Zv.Design b)).length:Int)-1:=by
 obtain ⟨x,c,w,m,hn,hx,hc,hk1,hk2,hl2,hm,hl,hne,hnm,hw,hs1,hs2,hp1,hc0⟩:=hL
 match hs:sinks (Zv.Design b) (((Zp.Zbh (Zv.Design b)).length:Int)-1),hs2 with
 | [v],_ =>
  obtain ⟨k,p,hp,e,h1,h2,_⟩:=Zv2 (pl:=places (Zv.Design b)) (net:=((Zp.Zbh (Zv.Design b)).length:Int)-1) (i:=0) (x:=v) (by
   show (sinks (Zv.Design b) (((Zp.Zbh (Zv.Design b)).length:Int)-1))[0]?=some v
   rw [hs];rfl)
  subst e
  refine ⟨k,p,rfl,hp,h1,h2,fun q=>?_⟩
  rcases Zqo hp with ⟨i,j,y,n,hy,hnj,_,rfl⟩ | ⟨j,y,_,_,rfl⟩
  ·simp only [ZrW] at q h1 h2
   have ei:i=(Zp.Instances (Zv.Design b)).length-1:=by omega
   rw [ei,hx] at hy
   injection hy with hy
   subst hy
   have hj:=(List.getElem?_eq_some_iff.1 hnj).1
   rw [hl2] at h2 hj
   have:j=0∨j=1:=by omega
   rcases this with rfl | rfl
   ·rw [show atI (Zz.Zbh x) 0=(Zz.Zbh x)[0]? from rfl,hnj] at hm
    injection hm with hm
    exact hne (hm.symm.trans h1)
   ·exact absurd h2 (by simp only [decide_eq_false_iff_not,Classical.not_not];rw [XD (by omega) (by omega)];rfl)
  ·simp only at q
   omega
/-
  Plain laws: a buffer taken away; inverse edits.
-/
theorem Zzx {b:Zv} (h:ZqJ b) {k:Nat} {p:Pl} {m:Int} (hn:0<(Zp.Instances (Zv.Design b)).length) (hs:sinks (Zv.Design b) (((Zp.Zbh (Zv.Design b)).length:Int)-1)=[(k:Int)]) (hp:(places (Zv.Design b))[k]?=some p) (h0:0≤m) (h1:m<((Zp.Zbh (Zv.Design b)).length:Int)-1) :
  Zvt (places (unD b p m)) ((Zv.ZlA b).length-1):=by
 have hwn:=h.ok.2.1
 have hD:Zvt (places (conn (Zv.Design b) p.1 p.2.1 m)) ((Zv.ZlA b).length-1):=by
  rw [ZpN hp]
  intro q hq hd
  obtain ⟨j,hj⟩:=List.getElem?_of_mem hq
  rw [List.getElem?_set] at hj
  split at hj
  ·split at hj
   ·injection hj with hj
    subst hj
    exact ⟨h0,by show m<_;omega⟩
   ·cases hj
  ·rename_i e
   have hnet:=Zp0 h.ok.1 (List.mem_of_getElem? hj)
   refine ⟨hnet.1,?_⟩
   by_cases hq2:q.2.2.1=((Zp.Zbh (Zv.Design b)).length:Int)-1
   ·have h3:=ZuF hj hq2 hd
    have h4:(sinks (Zv.Design b) (((Zp.Zbh (Zv.Design b)).length:Int)-1))[nth (places (Zv.Design b)) (((Zp.Zbh (Zv.Design b)).length:Int)-1) j]?=some (j:Int):=h3
    rw [hs] at h4
    have h5:=List.mem_of_getElem? h4
    rw [List.mem_singleton] at h5
    exact absurd (by omega) e
   ·have:=hnet.2
    omega
 intro q hq hd
 exact hD q (ZvZ (by rw [ZpC];exact hn) hq) hd
theorem Zuf {d:Zp} {x:Zz} (hn:0<(Zp.Instances d).length) (hx:(Zp.Instances d)[(Zp.Instances d).length-1]?=some x) (h2:(Zz.Zbh x).length=2):Zpg (Zpx d)+2=Zpg d:=by
 have h1:=Zxd hn hx
 unfold Zpg
 rw [h1,ZeE,List.length_append]
 simp only [cat,List.append_nil,Zp1,h2]
theorem ZxT {d:Zp} {x:Zz} (hn:0<(Zp.Instances d).length) (hx:(Zp.Instances d)[(Zp.Instances d).length-1]?=some x) (h2:(Zz.Zbh x).length=2):Zto d ((Zp.Instances d).length-1)=Zpg d-2:=by
 have h1:=Zuf hn hx h2
 have:Zto d ((Zp.Instances d).length-1)=Zpg (Zpx d):=rfl
 omega
theorem ZtJ {b:Zv} (h:ZqJ b) (hL:Zuz b):∃ (k:Nat) (p:Pl) (m v:Int),sinks (Zv.Design b) (((Zp.Zbh (Zv.Design b)).length:Int)-1)=[(k:Int)]∧(places (Zv.Design b))[k]?=some p∧p.1≠((Zp.Instances (Zv.Design b)).length:Int)-1∧
  (∀ y,(Zp.Instances (Zv.Design b))[(Zp.Instances (Zv.Design b)).length-1]?=some y→atI (Zz.Zbh y) 0=some m)∧v=Zpz b (Zpg (Zv.Design b)-2)∧
  ZqO b=some ((p.1,p.2.1,()),(Zv.Library b,unD b p m,wired (places (unD b p m)) ((Zv.ZlA b).take ((Zv.ZlA b).length-1)) (Zxt (fun j=>if j=k then v else Zpz b j) (Zpg (unD b p m))),())):=by
 obtain ⟨k,p,hs,hp,hpn,hpd,hpi⟩:=hL.sink h
 obtain ⟨x,c,w,m,hn,hx,hc,hk1,hk2,hl2,hm,hl,hne,hnm,hw,hs1,hs2,hp1,hc0⟩:=hL
 have hD:=h.ok.1
 have hf:=hD.few
 have hpl:=Zck hf
 have h14:=hf.insts
 have h30:=hD.2.1.2.1
 have hwn:=h.ok.2.1
 obtain ⟨_,_,hnet⟩:=hD.2.2.1 x (List.mem_of_getElem? hx)
 have hm0:(Zz.Zbh x)[0]?=some m:=hm
 have hmn:=hnet m (List.mem_of_getElem? hm0)
 have hpos:1≤(Zp.Zbh (Zv.Design b)).length:=by have:=hmn.1;have:=hmn.2;omega
 have hmn2:m<((Zp.Zbh (Zv.Design b)).length:Int)-1:=by have:=hmn.2;omega
 have hx2:atI (Zp.Instances (Zv.Design b)) (((Zp.Instances (Zv.Design b)).length:Int)-1)=some x:=Zkf (by omega) (by rw [←hx];congr 1;omega)
 have t1:Int.toNat (((Zp.Instances (Zv.Design b)).length:Int)-1)=(Zp.Instances (Zv.Design b)).length-1:=by omega
 have t2:Int.toNat (((Zp.Zbh (Zv.Design b)).length:Int)-1)=(Zp.Zbh (Zv.Design b)).length-1:=by omega
 have t3:Int.toNat (((Zv.ZlA b).length:Int)-1)=(Zv.ZlA b).length-1:=by omega
 have e:((Zv.Library b,(List.set (Zp.Instances (Zv.Design b)) ((Zp.Instances (Zv.Design b)).length-1) x,(Zv.Design b).snd),b.snd.snd):Zv)=b:=by rw [Zc0 hx]
 refine ⟨k,p,m,(Option.getD (Zjr Key (Ty.int IntKind.i64) (Zrw (places (Zv.Design b)) (Zpz b) (places (Zv.Design b)).length) ((((Zp.Instances (Zv.Design b)).length:Int)-1),(0:Int),())) (0:Int)),hs,hp,hpi,fun y hy=>by rw [hx] at hy;injection hy with hy;rw [←hy];exact hm,?_,?_⟩
 ·have h5:=ZsY hx hm0
  rw [Nat.add_zero,ZxT hn hx hl2] at h5
  have h6:=ZuD (Zv.Design b) (Zpz b) _ _ h5 (by
   show decide ((0:Int)=Wq (((Zz.Zbh x).length:Int)-1))=false
   rw [hl2,XD (by omega) (by omega)]
   decide)
  have h7:ZyQ (ZrW ((Zp.Instances (Zv.Design b)).length-1) x 0 m)=((((Zp.Instances (Zv.Design b)).length:Int)-1),(0:Int),()):=by
   show ((((Zp.Instances (Zv.Design b)).length-1:Nat):Int),(0:Int),())=_
   rw [show (((Zp.Instances (Zv.Design b)).length-1:Nat):Int)=((Zp.Instances (Zv.Design b)).length:Int)-1 by omega]
  rw [h7] at h6
  rw [h6]
  rfl
 unfold ZqO
 rw [Zr9 h,Bq,Zpj _ hf,Bq,show ZpQ (Zp.Zbh (Zv.Design b))=some ((Zp.Zbh (Zv.Design b)).length:Int) from rfl,Bq,
  XD (n:=((Zp.Zbh (Zv.Design b)).length:Int)-1) (by omega) (by omega),Zvn _ _ hf,Bq,hs,show atI [(k:Int)] 0=some (k:Int) from rfl,Bq,VU,hp,Bq,
  XD (n:=((Zp.Instances (Zv.Design b)).length:Int)-1) (by omega) (by omega),hx2,Bq,show x.snd.snd.fst=Zz.Zbh x from rfl,hm,Bq,t1,e,
  show (Zbl.instance p,Zbl.pin p,())=(p.1,p.2.1,()) from rfl,Zty hp m,Bq]
 have eD:Zv.Design ((Zv.Library b,conn (Zv.Design b) p.1 p.2.1 m,Zv.ZlA b,()):Zv)=conn (Zv.Design b) p.1 p.2.1 m:=rfl
 have eW:Zv.ZlA ((Zv.Library b,conn (Zv.Design b) p.1 p.2.1 m,Zv.ZlA b,()):Zv)=Zv.ZlA b:=rfl
 have eL:Zv.Library ((Zv.Library b,conn (Zv.Design b) p.1 p.2.1 m,Zv.ZlA b,()):Zv)=Zv.Library b:=rfl
 rw [eD,eW,eL,ZpO,XD (n:=((Zp.Zbh (Zv.Design b)).length:Int)-1) (by omega) (by omega),XD (n:=((Zv.ZlA b).length:Int)-1) (by omega) (by omega),t2,t3,
  ZB (by omega),ZB (by rw [ZpC];omega),ZB (by omega),ZB (by omega),ZB (by omega),ZB (by omega)]
 simp only [Int.toNat_zero,Nat.sub_zero,List.drop_zero]
 have hB:((Zv.Library b,(List.take ((Zp.Instances (Zv.Design b)).length-1) (Zp.Instances (conn (Zv.Design b) p.1 p.2.1 m)),List.take ((Zp.Zbh (Zv.Design b)).length-1) (Zp.Zbh (Zv.Design b)),(conn (Zv.Design b) p.1 p.2.1 m).snd.snd),List.take ((Zv.ZlA b).length-1) (Zv.ZlA b),()):Zv)
   = (Zv.Library b,unD b p m,List.take ((Zv.ZlA b).length-1) (Zv.ZlA b),()):=by
  unfold unD Zpx
  rw [ZpC,ZpO]
 rw [hB]
 have hx3:(Zp.Instances (conn (Zv.Design b) p.1 p.2.1 m))[(Zp.Instances (conn (Zv.Design b) p.1 p.2.1 m)).length-1]?=some ((Zp.Instances (conn (Zv.Design b) p.1 p.2.1 m))[(Zp.Instances (conn (Zv.Design b) p.1 p.2.1 m)).length-1]'(by rw [ZpC];omega)):=List.getElem?_eq_getElem _
 generalize (Zp.Instances (conn (Zv.Design b) p.1 p.2.1 m))[(Zp.Instances (conn (Zv.Design b) p.1 p.2.1 m)).length-1]'(by rw [ZpC];omega)=x' at hx3
 have hx4:(Zz.Zbh x').length=2:=by
  obtain ⟨y,hy,_,_,hyl,_⟩:=Zs5 hx3
  rw [ZpC,hx] at hy
  injection hy with hy
  rw [hyl,←hy,hl2]
 have hM:=(((ZuD (Zv.Design b) (Zpz b)).put hp (Option.getD (Zjr Key (Ty.int IntKind.i64) (Zrw (places (Zv.Design b)) (Zpz b) (places (Zv.Design b)).length) ((((Zp.Instances (Zv.Design b)).length:Int)-1),(0:Int),())) (0:Int))).set hp m)
 rw [←ZpN hp m] at hM
 have hM2:=hM.cut (by rw [ZpC];omega) hx3 hx4
 have hlen:(List.take ((Zv.ZlA b).length-1) (Zv.ZlA b)).length=(Zv.ZlA b).length-1:=by rw [List.length_take];omega
 have:=Zud (b:=(Zv.Library b,unD b p m,List.take ((Zv.ZlA b).length-1) (Zv.ZlA b),())) (hf.conn p.1 p.2.1 m).cut hM2 (by
  show Zvt (places (unD b p m)) (List.take ((Zv.ZlA b).length-1) (Zv.ZlA b)).length
  rw [hlen]
  exact Zzx h hn hs hp hmn.1 hmn2) (by
  show (List.take ((Zv.ZlA b).length-1) (Zv.ZlA b)).length≤_
  rw [hlen];omega)
 exact Eq.trans (congrArg (fun o=>Option.bind o fun connect0=>some ((p.1,p.2.1,()),connect0)) this) rfl
/-
  Plain laws: inverse edits.
-/
theorem Zy4:sm (.sl (.int .i64)) ([]:List Int):=⟨by simp,fun _ _=>trivial⟩
theorem Zvb:sm ZjY (([]:List Int),([]:List Int),([]:List Int),([]:List Int),()):=⟨Zy4,Zy4,Zy4,Zy4,trivial⟩
/-
  Plain laws: designs stay valid when a place is put on another net, when a buffer is added or taken away.
-/
theorem ZrY.put {w:QH} {s:Int} (h:ZrY w s) {l:List Int} (hl:ZuY l 0 (((QH.Parent w).length:Int)-1)):ZrY (Zrx w l) (l.length:Int) :=
 ⟨h.1,h.2.1,h.2.2.1,rfl,h.2.2.2.2.1,h.2.2.2.2.2.1,h.2.2.2.2.2.2.1,hl⟩
def Fits (pl:List Pl) (ws:List QH) (nd:Nat→Int):Prop:=∀ (k:Nat) (p:Pl) (w:QH),pl[k]?=some p→p.2.2.2.1=false→ws[p.2.2.1.toNat]?=some w→0≤nd k∧nd k≤((QH.Parent w).length:Int)-1
theorem Zyd {pl:List Pl} {ws:List QH} {nd:Nat→Int} (hw:∀ (v:Nat) (w:QH),ws[v]?=some w→∃ s,ZrY w s) (hf:Fits pl ws nd) :
  Zna (wired pl ws nd) (fun v w=>ZrY w ((cat (Zg9 (v:Int)) 0 pl).length:Int)):=by
 intro v w hv
 rw [ZpT] at hv
 cases hx:ws[v]? with
 | none=>rw [hx] at hv;cases hv
 | some y =>
  rw [hx] at hv
  injection hv with hv
  subst hv
  obtain ⟨s,hs⟩:=hw v y hx
  have:=hs.put (l:=(cat (Zg9 (v:Int)) 0 pl).map (fun k=>nd k.toNat)) (fun z hz=>by
   obtain ⟨j,hj,rfl⟩:=List.mem_map.1 hz
   obtain ⟨k,p,rfl,hp,h1,h2⟩:=Zyq hj
   exact hf k p y hp h2 (by rw [h1];exact hx))
  rw [List.length_map] at this
  exact this
theorem Zvh {b:Zv} (h:ZqJ b):Fits (places (Zv.Design b)) (Zv.ZlA b) (Zpz b):=by
 intro k p w hp h2 hw
 obtain ⟨w',_,hw1,hw2,hw3⟩:=Zx4 h hp h2
 rw [hw1] at hw
 injection hw with hw
 subst hw
 rw [VU] at hw2
 exact hw3.2.2.2.2.2.2.2 _ (List.mem_of_getElem? hw2)
theorem Fits.set {pl:List Pl} {ws:List QH} {nd:Nat→Int} (h:Fits pl ws nd) {k0:Nat} {p0:Pl} (n v:Int) (hv:∀ w,ws[n.toNat]?=some w→0≤v∧v≤((QH.Parent w).length:Int)-1) :
  Fits (pl.set k0 (p0.1,p0.2.1,n,p0.2.2.2.1,())) ws (fun j=>if j=k0 then v else nd j):=by
 intro k p w hp h2 hw
 rw [List.getElem?_set] at hp
 split at hp
 ·rename_i e
  subst e
  split at hp
  ·injection hp with hp
   subst hp
   show 0≤(if k0=k0 then v else nd k0)∧(if k0=k0 then v else nd k0)≤_
   rw [if_pos rfl]
   exact hv w hw
  ·cases hp
 ·rename_i e
  show 0≤(if k=k0 then v else nd k)∧(if k=k0 then v else nd k)≤_
  rw [if_neg (fun q=>e q.symm)]
  exact h k p w hp h2 hw
theorem Zc6.snoc {l:List (List UInt8)} {s:List UInt8} (h:Zc6 l l.length) (h1:Zad s=true) (h2:s ∉ l):Zc6 (l++[s]) (l++[s]).length:=by
 intro j t hj ht
 by_cases e:j<l.length
 ·rw [List.getElem?_append_left e] at ht
  obtain ⟨a,b⟩:=h j t e ht
  refine ⟨a,?_⟩
  rw [List.take_append_of_le_length (by omega)]
  exact b
 ·rw [List.length_append,List.length_singleton] at hj
  have e2:j=l.length:=by omega
  subst e2
  rw [List.getElem?_append_right (by omega),Nat.sub_self] at ht
  injection ht with ht
  subst ht
  refine ⟨h1,?_⟩
  rw [List.take_append_of_le_length (Nat.le_refl _),List.take_length]
  exact h2
theorem Zc6.take {l:List (List UInt8)} (h:Zc6 l l.length) (m:Nat):Zc6 (l.take m) (l.take m).length:=by
 intro j t hj ht
 rw [List.length_take] at hj
 rw [List.getElem?_take,if_pos (by omega)] at ht
 obtain ⟨a,b⟩:=h j t (by omega) ht
 refine ⟨a,?_⟩
 rw [List.take_take,Nat.min_eq_left (by omega)]
 exact b
theorem Zt9 (d:Zp) (a b n:Int):ZpY (conn d a b n)=ZpY d:=by
 unfold conn
 split
 ·rfl
 ·show List.map Zz.Name (match (Zp.Instances d)[a.toNat]? with | some x=>(Zp.Instances d).set a.toNat (ZrQ x b.toNat n) | none=>Zp.Instances d)=List.map Zz.Name (Zp.Instances d)
  split
  ·rename_i x hx
   rw [List.map_set]
   exact Zc0 (by rw [List.getElem?_map,hx];rfl)
  ·rfl
theorem Zyk (d:Zp) (a b n:Int):Zsv (conn d a b n)=Zsv d:=by
 unfold conn
 split
 ·show List.map Zah.Name (match (Zp.Vk d)[b.toNat]? with | some x=>(Zp.Vk d).set b.toNat (setPort x n) | none=>Zp.Vk d)=List.map Zah.Name (Zp.Vk d)
  split
  ·rename_i x hx
   rw [List.map_set]
   exact Zc0 (by rw [List.getElem?_map,hx];rfl)
  ·rfl
 ·rfl
theorem Zyl {d:Zp} {a b n:Int} {i:Nat} {y:Zah} (hy:(Zp.Vk (conn d a b n))[i]?=some y):∃ x,(Zp.Vk d)[i]?=some x∧Zah.Name y=Zah.Name x∧Zah.Dir y=Zah.Dir x∧(Zah.Net y=Zah.Net x∨Zah.Net y=n):=by
 unfold conn at hy
 split at hy
 ·have hy:(match (Zp.Vk d)[b.toNat]? with | some x=>(Zp.Vk d).set b.toNat (setPort x n) | none=>Zp.Vk d)[i]?=some y:=hy
  split at hy
  ·rename_i x hx
   rw [List.getElem?_set] at hy
   split at hy
   ·rename_i e
    split at hy
    ·injection hy with hy
     subst hy
     exact ⟨x,by rw [←e];exact hx,rfl,rfl,.inr rfl⟩
    ·cases hy
   ·exact ⟨y,hy,rfl,rfl,.inl rfl⟩
  ·exact ⟨y,hy,rfl,rfl,.inl rfl⟩
 ·exact ⟨y,hy,rfl,rfl,.inl rfl⟩
theorem ZvS {α:Type} {f:α→Bool} {y:α} (hy:f y=false):∀ {l:List α} {i:Nat} {x:α},l[i]?=some x→f x=false→(l.set i y).filter f=l.filter f
 | [],i,x,h,_=>by simp at h
 | a::l,0,x,h,hx=>by
  have h:a=x:=by simpa using h
  subst h
  simp [List.set,hx,hy]
 | a::l,i+1,x,h,hx=>by
  have:=ZvS hy (l:=l) (i:=i) (by simpa using h) hx
  simp only [List.set_cons_succ,List.filter_cons,this]
theorem Zvi {x:Zz} (h:0<(Zz.Zbh x).length):(Zz.Zbh x)[(Zz.Zbh x).length-1]?=some (ZpZ x):=by
 unfold ZpZ
 rw [List.getLastD_eq_getLast?,←List.getLast?_eq_getElem?]
 cases hN:Zz.Zbh x with
 | nil=>rw [hN] at h;simp at h
 | cons y r=>rw [List.getLast?_cons];rfl
theorem ZxM {x:Zz} {j:Nat} {n:Int} (h:j+1≠(Zz.Zbh x).length):ZpZ (ZrQ x j n)=ZpZ x:=by
 by_cases h0:0<(Zz.Zbh x).length
 ·have h1:=Zvi (x:=ZrQ x j n) (by show 0<(List.set (Zz.Zbh x) j n).length;rw [List.length_set];exact h0)
  have h2:(List.set (Zz.Zbh x) j n)[(List.set (Zz.Zbh x) j n).length-1]?=some (ZpZ (ZrQ x j n)):=h1
  rw [List.length_set,List.getElem?_set,if_neg (by omega),Zvi h0] at h2
  injection h2 with h2
  exact h2.symm
 ·have e:Zz.Zbh x=[]:=List.length_eq_zero_iff.1 (by omega)
  unfold ZpZ
  show (List.set (Zz.Zbh x) j n).getLastD 0=_
  rw [e];rfl
theorem Zzr {d:Zp} (hf:Few d) {k:Nat} {p:Pl} (hp:(places d)[k]?=some p) (h2:p.2.2.2.1=false) (n:Int):Zxg (conn d p.1 p.2.1 n)=Zxg d:=by
 unfold Zxg
 rcases Zqo hp with ⟨i,j,x,m,hx,hn,e,rfl⟩ | ⟨j,q,hq,e,rfl⟩
 ·have hl:=hf.nets x (List.mem_of_getElem? hx)
  have hj:=(List.getElem?_eq_some_iff.1 hn).1
  have h3:decide ((j:Int)=Wq (((Zz.Zbh x).length:Int)-1))=false:=h2
  rw [XD (by omega) (by omega)] at h3
  have h4:¬((j:Int)=((Zz.Zbh x).length:Int)-1):=of_decide_eq_false h3
  have c:¬((i:Int)<0):=by omega
  have e1:Zp.Instances (conn d (ZrW i x j m).1 (ZrW i x j m).2.1 n)=(Zp.Instances d).set i (ZrQ x j n):=by
   unfold conn
   show Zp.Instances (if (i:Int)<0 then _ else _)=_
   rw [if_neg c]
   show (match (Zp.Instances d)[(i:Int).toNat]? with | some x=>(Zp.Instances d).set (i:Int).toNat (ZrQ x (j:Int).toNat n) | none=>Zp.Instances d)=_
   simp only [Int.toNat_natCast,hx]
  have e2:Zp.Vk (conn d (ZrW i x j m).1 (ZrW i x j m).2.1 n)=Zp.Vk d:=by
   unfold conn
   show Zp.Vk (if (i:Int)<0 then _ else _)=_
   rw [if_neg c]
  rw [e1,e2,List.map_set,ZxM (by omega),Zc0 (by rw [List.getElem?_map,hx];rfl)]
 ·have h3:decide (Zah.Dir q=1)=false:=h2
  have e1:Zp.Instances (conn d (-1) (j:Int) n)=Zp.Instances d:=by
   unfold conn
   rw [if_pos (by omega)]
  have e2:Zp.Vk (conn d (-1) (j:Int) n)=(Zp.Vk d).set j (setPort q n):=by
   unfold conn
   rw [if_pos (by omega)]
   show (match (Zp.Vk d)[(j:Int).toNat]? with | some x=>(Zp.Vk d).set (j:Int).toNat (setPort x n) | none=>Zp.Vk d)=_
   simp only [Int.toNat_natCast,hq]
  show (Zp.Instances (conn d (-1) (j:Int) n)).map ZpZ++((Zp.Vk (conn d (-1) (j:Int) n)).filter (fun p=>decide (Zah.Dir p=1))).map Zah.Net=_
  rw [e1,e2,ZvS (by exact h3) hq h3]
theorem ZyC {a:ZaF} {d:Zp} (h:Zqm a d) {k:Nat} {p:Pl} (hp:(places d)[k]?=some p) (h2:p.2.2.2.1=false) {n:Int} (hn:Zre d n):Zqm a (conn d p.1 p.2.1 n):=by
 obtain ⟨hl,⟨n1,n2,n3,n4,n5,n6⟩,hi,hq,ho⟩:=h
 have hf:Few d:=Zqm.few (a:=a) ⟨hl,⟨n1,n2,n3,n4,n5,n6⟩,hi,hq,ho⟩
 refine ⟨hl,⟨by rw [ZpC];exact n1,by rw [ZpO];exact n2,by rw [ZuB];exact n3,by rw [Zt9];exact n4,by rw [ZpO];exact n5,by rw [Zyk];exact n6⟩,fun y hy=>?_,fun y hy=>?_,?_⟩
 ·obtain ⟨i,hi2⟩:=List.getElem?_of_mem hy
  obtain ⟨x,hx,_,hc,hlen,_,hm⟩:=Zs5 hi2
  obtain ⟨r1,⟨c,r2,r3⟩,r4⟩:=hi x (List.mem_of_getElem? hx)
  refine ⟨by rw [hc];exact r1,⟨c,by rw [hc];exact r2,by rw [hlen];exact r3⟩,fun m hm2=>?_⟩
  unfold Zre
  rw [ZpO]
  rcases hm m hm2 with q | q
  ·exact r4 m q
  ·rw [q];exact hn
 ·obtain ⟨i,hi2⟩:=List.getElem?_of_mem hy
  obtain ⟨x,hx,_,hd,hm⟩:=Zyl hi2
  obtain ⟨r1,r2⟩:=hq x (List.mem_of_getElem? hx)
  refine ⟨by rw [hd];exact r1,?_⟩
  unfold Zre
  rw [ZpO]
  rcases hm with q | q
  ·rw [q];exact r2
  ·rw [q];exact hn
 ·unfold ZuA
  rw [ZpO,Zzr hf hp h2]
  exact ho
theorem ZyP {a:ZaF} {d:Zp} (h:Zqm a d):∀ v∈Zxg d,Zre d v:=by
 have hf:=h.few
 intro v hv
 unfold Zxg at hv
 rcases List.mem_append.1 hv with hv | hv
 ·obtain ⟨x,hx,rfl⟩:=List.mem_map.1 hv
  have:=hf.nets x hx
  exact ((h.2.2.1 x hx).last h.1 (by omega)).2
 ·obtain ⟨q,hq,rfl⟩:=List.mem_map.1 hv
  exact (h.2.2.2.1 q (List.mem_filter.1 hq).1).2
theorem ZwB {d:Zp}:ZuA d↔∀ v:Nat,v<(Zp.Zbh d).length→(Zxg d).countP (fun x=>decide (x=(v:Int)))=1:=by
 unfold ZuA
 constructor
 ·intro h v hv
  have:=h _ (List.mem_of_getElem? (Zvf (s:=Zxg d) hv))
  omega
 ·intro h x hx
  obtain ⟨j,hj⟩:=List.getElem?_of_mem hx
  have hlt:=(List.getElem?_eq_some_iff.1 hj).1
  rw [ZuJ] at hlt
  rw [Zvf hlt] at hj
  injection hj with hj
  have:=h j hlt
  omega
theorem ZyD {l:List Int} {v:Int} (h:∀ x∈l,x≠v):l.countP (fun x=>decide (x=v))=0:=by
 rw [List.countP_eq_zero]
 intro x hx
 simp [h x hx]
theorem ZAz {a:ZaF} {d:Zp} (h:Zqm a d) {s:List UInt8} {c m:Int} {cell:QG} (hs:Zad s=true) (h1:s ∉ ZpY d) (h2:s ∉ Zp.Zbh d) (h13:(Zp.Instances d).length≤13) (h29:(Zp.Zbh d).length≤29)
  (hc0:0≤c) (hc1:c≤((ZaF.Cells a).length:Int)-1) (hc:(ZaF.Cells a)[c.toNat]?=some cell) (hp:(QG.ZoY cell).length=2) (hm:Zre d m) :
  Zqm a (addInst d (s,c,[m,((Zp.Zbh d).length:Int)],()) s):=by
 have hdn:=ZyP h
 obtain ⟨hl,⟨n1,n2,n3,n4,n5,n6⟩,hi,hq,ho⟩:=h
 have eI:Zp.Instances (addInst d (s,c,[m,((Zp.Zbh d).length:Int)],()) s)=Zp.Instances d++[(s,c,[m,((Zp.Zbh d).length:Int)],())]:=rfl
 have eN:Zp.Zbh (addInst d (s,c,[m,((Zp.Zbh d).length:Int)],()) s)=Zp.Zbh d++[s]:=rfl
 have eP:Zp.Vk (addInst d (s,c,[m,((Zp.Zbh d).length:Int)],()) s)=Zp.Vk d:=rfl
 have hnet:∀ n,Zre d n→Zre (addInst d (s,c,[m,((Zp.Zbh d).length:Int)],()) s) n:=fun n hn=>by
  unfold Zre at *
  rw [eN,List.length_append,List.length_singleton]
  omega
 refine ⟨hl,⟨by rw [eI,List.length_append,List.length_singleton];omega,by rw [eN,List.length_append,List.length_singleton];omega,n3,?_,by rw [eN];exact n5.snoc hs h2,n6⟩,fun y hy=>?_,fun y hy=>?_,?_⟩
 ·have:ZpY (addInst d (s,c,[m,((Zp.Zbh d).length:Int)],()) s)=ZpY d++[s]:=by
   unfold ZpY
   rw [eI,List.map_append]
   rfl
  rw [this]
  exact n4.snoc hs h1
 ·rw [eI] at hy
  rcases List.mem_append.1 hy with hy | hy
  ·obtain ⟨r1,r2,r4⟩:=hi y hy
   exact ⟨r1,r2,fun n hn=>hnet n (r4 n hn)⟩
  ·rw [List.mem_singleton] at hy
   subst hy
   refine ⟨⟨hc0,hc1⟩,⟨cell,hc,by rw [hp];rfl⟩,fun n hn=>?_⟩
   have hn:n∈[m,((Zp.Zbh d).length:Int)]:=hn
   rcases List.mem_cons.1 hn with hn | hn
   ·rw [hn];exact hnet m hm
   ·rw [List.mem_singleton] at hn
    subst hn
    unfold Zre
    rw [eN,List.length_append,List.length_singleton]
    omega
 ·obtain ⟨r1,r2⟩:=hq y hy
  exact ⟨r1,hnet _ r2⟩
 ·rw [ZwB] at ho ⊢
  intro v hv
  rw [eN,List.length_append,List.length_singleton] at hv
  have e:Zxg (addInst d (s,c,[m,((Zp.Zbh d).length:Int)],()) s)=(Zp.Instances d).map ZpZ++[((Zp.Zbh d).length:Int)]++((Zp.Vk d).filter (fun p=>decide (Zah.Dir p=1))).map Zah.Net:=by
   unfold Zxg
   rw [eI,eP,List.map_append]
   rfl
  have e2:Zxg d=(Zp.Instances d).map ZpZ++((Zp.Vk d).filter (fun p=>decide (Zah.Dir p=1))).map Zah.Net:=rfl
  rw [e,List.countP_append,List.countP_append,List.countP_singleton]
  by_cases hvl:v<(Zp.Zbh d).length
  ·have:=ho v hvl
   rw [e2,List.countP_append] at this
   rw [if_neg (by simp;omega)]
   omega
  ·have h0:=ZyD (l:=Zxg d) (v:=(v:Int)) (fun x hx=>by have:=(hdn x hx).2;omega)
   rw [e2,List.countP_append] at h0
   rw [if_pos (by simp;omega)]
   omega
theorem ZAo {d:Zp} (hf:Few d) {p:Pl} (hp:p∈places d) (h2:p.2.2.2.1=true):p.2.2.1∈Zxg d:=by
 obtain ⟨k,hk⟩:=List.getElem?_of_mem hp
 unfold Zxg
 rcases Zqo hk with ⟨i,j,x,m,hx,hn,e,rfl⟩ | ⟨j,q,hq,e,rfl⟩
 ·have hl:=hf.nets x (List.mem_of_getElem? hx)
  have hj:=(List.getElem?_eq_some_iff.1 hn).1
  have h3:decide ((j:Int)=Wq (((Zz.Zbh x).length:Int)-1))=true:=h2
  rw [XD (by omega) (by omega)] at h3
  have h4:(j:Int)=((Zz.Zbh x).length:Int)-1:=of_decide_eq_true h3
  refine List.mem_append_left _ (List.mem_map.2 ⟨x,List.mem_of_getElem? hx,?_⟩)
  have h5:=Zvi (x:=x) (by omega)
  rw [show (Zz.Zbh x).length-1=j by omega,hn] at h5
  injection h5 with h5
  exact h5.symm
 ·have h3:decide (Zah.Dir q=1)=true:=h2
  exact List.mem_append_right _ (List.mem_map.2 ⟨q,List.mem_filter.2 ⟨List.mem_of_getElem? hq,h3⟩,rfl⟩)
theorem ZAD {a:ZaF} {d:Zp} (h:Zqm a d) {x:Zz} (hn:0<(Zp.Instances d).length) (hx:(Zp.Instances d)[(Zp.Instances d).length-1]?=some x) (hlx:ZpZ x=((Zp.Zbh d).length:Int)-1)
  (hs:∀ p∈places d,p.2.2.2.1=false→p.2.2.1≠((Zp.Zbh d).length:Int)-1):Zqm a (Zpx d):=by
 have hdn:=ZyP h
 have hf:=h.few
 have hcut:=Zxd hn hx
 obtain ⟨hl,⟨n1,n2,n3,n4,n5,n6⟩,hi,hq,ho⟩:=h
 have hpos:1≤(Zp.Zbh d).length:=by
  have:=hdn (ZpZ x) (List.mem_append_left _ (List.mem_map.2 ⟨x,List.mem_of_getElem? hx,rfl⟩))
  unfold Zre at this
  omega
 have eN:(Zp.Zbh (Zpx d)).length=(Zp.Zbh d).length-1:=by
  show (List.take ((Zp.Zbh d).length-1) (Zp.Zbh d)).length=_
  rw [List.length_take];omega
 have eD:Zxg d=(Zp.Instances (Zpx d)).map ZpZ++[ZpZ x]++((Zp.Vk d).filter (fun p=>decide (Zah.Dir p=1))).map Zah.Net:=by
  unfold Zxg
  rw [hcut,List.map_append]
  rfl
 have eC:Zxg (Zpx d)=(Zp.Instances (Zpx d)).map ZpZ++((Zp.Vk d).filter (fun p=>decide (Zah.Dir p=1))).map Zah.Net:=rfl
 have hcnt:∀ v:Int,(Zxg d).countP (fun y=>decide (y=v))=(Zxg (Zpx d)).countP (fun y=>decide (y=v))+if ZpZ x=v then 1 else 0:=fun v=>by
  rw [eD,eC,List.countP_append,List.countP_append,List.countP_append,List.countP_singleton]
  by_cases q:ZpZ x=v
  ·simp only [q,decide_true,if_true];omega
  ·simp only [q,decide_false,if_false];simp
 rw [ZwB] at ho
 have none:∀ p∈places (Zpx d),p.2.2.1≠((Zp.Zbh d).length:Int)-1:=by
  intro p hp e
  cases h2:p.2.2.2.1 with
  | false=>exact hs p (ZvZ hn hp) h2 e
  | true =>
   have h3:=ZAo hf.cut hp h2
   have h4:=ho ((Zp.Zbh d).length-1) (by omega)
   rw [hcnt,if_pos (by omega)] at h4
   have h5:0<(Zxg (Zpx d)).countP (fun y=>decide (y=(((Zp.Zbh d).length-1:Nat):Int))):=List.countP_pos_iff.2 ⟨_,h3,by simp;omega⟩
   omega
 have netC:∀ n,Zre d n→n≠((Zp.Zbh d).length:Int)-1→Zre (Zpx d) n:=fun n h1 h2=>by
  unfold Zre at *
  rw [eN]
  omega
 have eI:∀ i y,(Zp.Instances (Zpx d))[i]?=some y→(Zp.Instances d)[i]?=some y:=fun i y hy=>by
  rw [hcut,List.getElem?_append_left (List.getElem?_eq_some_iff.1 hy).1]
  exact hy
 refine ⟨hl,⟨by show (List.take _ (Zp.Instances d)).length≤14;rw [List.length_take];omega,by rw [eN];omega,n3,?_,n5.take _,n6⟩,fun y hy=>?_,fun y hy=>?_,?_⟩
 ·have:ZpY (Zpx d)=(ZpY d).take ((Zp.Instances d).length-1):=by
   unfold ZpY
   show List.map Zz.Name (List.take _ (Zp.Instances d))=_
   rw [List.map_take]
  rw [this]
  exact n4.take _
 ·obtain ⟨i,hy2⟩:=List.getElem?_of_mem hy
  obtain ⟨r1,r2,r4⟩:=hi y (List.mem_of_getElem? (eI i y hy2))
  refine ⟨r1,r2,fun n hn2=>netC n (r4 n hn2) ?_⟩
  obtain ⟨j,hj⟩:=List.getElem?_of_mem hn2
  exact none _ (List.mem_of_getElem? (ZsY hy2 hj))
 ·obtain ⟨r1,r2⟩:=hq y hy
  obtain ⟨j,hj⟩:=List.getElem?_of_mem hy
  exact ⟨r1,netC _ r2 (none _ (List.mem_of_getElem? (Zx7 (d:=Zpx d) hj)))⟩
 ·rw [ZwB]
  intro v hv
  rw [eN] at hv
  have:=ho v (by omega)
  rw [hcnt,if_neg (by omega)] at this
  exact this
/-
  Plain laws: the blocks that edits make are valid.
-/
theorem Zxz {l:List Int} (h:l.length≤1048576):sm (.sl (.int .i64)) l:=⟨by omega,fun _ _=>trivial⟩
theorem ZxA {s:List UInt8} {c:Int} {l:List Int} (h1:sm .str s) (h2:l.length≤1048576):sm ZdO (s,c,l,()):=⟨h1,trivial,Zxz h2,trivial⟩
theorem ZuG {a b c d:List Int} (h1:a.length≤1048576) (h2:b.length≤1048576) (h3:c.length≤1048576) (h4:d.length≤1048576):sm ZjY (a,b,c,d,()):=⟨Zxz h1,Zxz h2,Zxz h3,Zxz h4,trivial⟩
theorem Ztr {a:List Zz} {b:List (List UInt8)} {c:List Zah} (h1:sm (.sl ZdO) a) (h2:sm (.sl .str) b) (h3:sm (.sl ZkZ) c):sm ZdN (a,b,c,()):=⟨h1,h2,h3,trivial⟩
theorem Zs0 {a:ZaF} {b:Zp} {c:List QH} (h1:sm Zc3 a) (h2:sm ZdN b) (h3:sm (.sl ZjY) c):sm ZjX (a,b,c,()):=⟨h1,h2,h3,trivial⟩
theorem ZyH {d:Zp} (h:sm ZdN d) (a b n:Int):sm ZdN (conn d a b n):=by
 obtain ⟨h1,h2,h3⟩:=Zrk h
 have e:conn d a b n=(Zp.Instances (conn d a b n),Zp.Zbh (conn d a b n),Zp.Vk (conn d a b n),()):=rfl
 rw [e]
 refine Ztr ⟨by rw [ZpC];exact h1.1,fun y hy=>?_⟩ (by rw [ZpO];exact h3) ⟨by rw [ZuB];exact h2.1,fun y hy=>?_⟩
 ·obtain ⟨i,hi⟩:=List.getElem?_of_mem hy
  obtain ⟨x,hx,hn,_,hl,_⟩:=Zs5 hi
  obtain ⟨s1,s2⟩:=ZuV (ZqC h1 hx)
  have s3:=Zo9 s2
  exact ZxA (s:=Zz.Name y) (c:=Zz.Cell y) (l:=Zz.Zbh y) (by rw [hn];exact s1) (by rw [hl];exact s3)
 ·obtain ⟨i,hi⟩:=List.getElem?_of_mem hy
  obtain ⟨x,hx,hn,_⟩:=Zyl hi
  have s1:=ZAg (ZqC h2 hx)
  have:sm .str (Zah.Name y):=by rw [hn];exact s1
  exact ⟨this,trivial,trivial,trivial⟩
theorem ZAF {d:Zp} (h:sm ZdN d) (hf:(Zp.Instances d).length≤100) (hn:(Zp.Zbh d).length≤100) {x:Zz} {s:List UInt8} (hx:sm ZdO x) (hs:sm .str s):sm ZdN (addInst d x s):=by
 obtain ⟨h1,h2,h3⟩:=Zrk h
 refine Ztr ⟨by rw [List.length_append,List.length_singleton];omega,fun y hy=>?_⟩ ⟨by rw [List.length_append,List.length_singleton];omega,fun y hy=>?_⟩ h2
 ·rcases List.mem_append.1 hy with hy | hy
  ·exact h1.2 y hy
  ·rw [List.mem_singleton] at hy;rw [hy];exact hx
 ·rcases List.mem_append.1 hy with hy | hy
  ·exact h3.2 y hy
  ·rw [List.mem_singleton] at hy;rw [hy];exact hs
theorem ZyI {t:Ty} {l:List t.den} (h:sm (.sl t) l) (m:Nat):sm (.sl t) (l.take m):=by
 have:=h.1
 exact ⟨by rw [List.length_take];omega,fun x hx=>h.2 x (List.mem_of_mem_take hx)⟩
theorem ZAH {d:Zp} (h:sm ZdN d):sm ZdN (Zpx d):=by
 obtain ⟨h1,h2,h3⟩:=Zrk h
 exact Ztr (ZyI h1 _) (ZyI h3 _) h2
theorem Zx9 {pl:List Pl} {ws:List QH} {nd:Nat→Int} (h:sm (.sl ZjY) ws) (hp:pl.length≤1048576):sm (.sl ZjY) (wired pl ws nd):=by
 have h1:=h.1
 refine ⟨by rw [ZtH];exact h1,fun y hy=>?_⟩
 obtain ⟨v,hv⟩:=List.getElem?_of_mem hy
 rw [ZpT] at hv
 cases hx:ws[v]? with
 | none=>rw [hx] at hv;cases hv
 | some w =>
  rw [hx] at hv
  injection hv with hv
  subst hv
  obtain ⟨a1,a2,a3,a4⟩:=Zv3 (ZqC h hx)
  have:=Zgm (v:Int) pl 0
  exact ZuG (Zo9 a1) (Zo9 a2) (Zo9 a3) (by rw [List.length_map];omega)
theorem ZyU {b:Zv} (h:ZqJ b) {k:Nat} {p:Pl} (hp:(places (Zv.Design b))[k]?=some p) (h2:p.2.2.2.1=false) {n v:Int} (hn:Zre (Zv.Design b) n) (hv:∀ w,(Zv.ZlA b)[n.toNat]?=some w→0≤v∧v≤((QH.Parent w).length:Int)-1):ZqJ (moved b k p n v):=by
 have hpl:places (mvD b p n)=(places (Zv.Design b)).set k (p.1,p.2.1,n,p.2.2.2.1,()):=ZpN hp n
 obtain ⟨b1,b2,b3⟩:=Zrd h.sm
 have hD:Zqm (Zv.Library b) (mvD b p n):=ZyC h.ok.1 hp h2 hn
 refine ⟨⟨hD,?_,?_⟩,?_⟩
 ·show (wired (places (mvD b p n)) (Zv.ZlA b) (mvN b k v)).length=(Zp.Zbh (conn (Zv.Design b) p.1 p.2.1 n)).length
  rw [ZtH,ZpO];exact h.ok.2.1
 ·exact Zyd (fun v w hw=>⟨_,h.ok.2.2 v w hw⟩) (by rw [hpl];exact (Zvh h).set n v hv)
 ·have hl:=Zck hD.few
  exact Zs0 b1 (ZyH b2 _ _ _) (Zx9 b3 (by omega))
theorem Zyi {c c2:QG} (h1:sm Zin c) (h2:sm Zin c2) (h:Zp3 c c2=some true):(QG.ZoY c2).length=(QG.ZoY c).length:=by
 unfold Zp3 at h
 by_cases q:QG.Kind c=QG.Kind c2
 ·by_cases q2:((QG.ZoY c).length:Int)=((QG.ZoY c2).length:Int)
  ·omega
  ·exfalso;revert h;simp [q,q2]
 ·exfalso;revert h;simp [q]
theorem Zuy {d:Zp} {i:Nat} {x:Zz} (hx:(Zp.Instances d)[i]?=some x) (c:Int):places ((Zp.Instances d).set i (Zz.Name x,c,Zz.Zbh x,()),Zp.Zbh d,Zp.Vk d,())=places d:=by
 show cat ZeJ 0 ((Zp.Instances d).set i (Zz.Name x,c,Zz.Zbh x,()))++cat ZdA 0 (Zp.Vk d)=_
 unfold places
 congr 1
 have hlt:=(List.getElem?_eq_some_iff.1 hx).1
 have e1:=Zt8 ZeJ hx
 have hx2:((Zp.Instances d).set i (Zz.Name x,c,Zz.Zbh x,()))[i]?=some (Zz.Name x,c,Zz.Zbh x,()):=List.getElem?_set_self hlt
 have e2:=Zt8 ZeJ hx2
 rw [e1,e2,List.take_set_of_le (Nat.le_refl _),List.drop_set_of_lt (by omega)]
 rfl
theorem ZxU {b:Zv} (h:ZqJ b) {i:Int} (h0:0≤i) {x:Zz} (hx:(Zp.Instances (Zv.Design b))[i.toNat]?=some x) {c:Int} {c1 c2:QG} (hc1:(ZaF.Cells (Zv.Library b))[(Zz.Cell x).toNat]?=some c1) (hc2:(ZaF.Cells (Zv.Library b))[c.toNat]?=some c2)
  (hc:0≤c∧c≤((ZaF.Cells (Zv.Library b)).length:Int)-1) (ha:(QG.ZoY c2).length=(QG.ZoY c1).length):ZqJ (swapped b i c):=by
 obtain ⟨b1,b2,b3⟩:=Zrd h.sm
 obtain ⟨s1,s2,s3⟩:=Zrk b2
 obtain ⟨⟨hl,⟨n1,n2,n3,n4,n5,n6⟩,hi,hq,ho⟩,hwn,hw⟩:=h.ok
 have e:swapped b i c=(Zv.Library b,((Zp.Instances (Zv.Design b)).set i.toNat (Zz.Name x,c,Zz.Zbh x,()),Zp.Zbh (Zv.Design b),Zp.Vk (Zv.Design b),()),Zv.ZlA b,()):=by
  unfold swapped
  rw [hx]
 have hpl:=Zuy hx c
 rw [e]
 have hmem:∀ y∈(Zp.Instances (Zv.Design b)).set i.toNat (Zz.Name x,c,Zz.Zbh x,()),y∈Zp.Instances (Zv.Design b)∨y=(Zz.Name x,c,Zz.Zbh x,()):=fun y hy=>List.mem_or_eq_of_mem_set hy
 refine ⟨⟨⟨hl,⟨by show (List.set _ _ _).length≤14;rw [List.length_set];exact n1,n2,n3,?_,n5,n6⟩,fun y hy=>?_,hq,?_⟩,hwn,?_⟩,?_⟩
 ·have:ZpY ((Zp.Instances (Zv.Design b)).set i.toNat (Zz.Name x,c,Zz.Zbh x,()),Zp.Zbh (Zv.Design b),Zp.Vk (Zv.Design b),())=ZpY (Zv.Design b):=by
   show List.map Zz.Name (List.set _ _ _)=_
   rw [List.map_set]
   exact Zc0 (by rw [List.getElem?_map,hx];rfl)
  exact this▸n4
 ·rcases hmem y hy with hy | hy
  ·exact hi y hy
  ·subst hy
   obtain ⟨r1,⟨c',r2,r3⟩,r4⟩:=hi x (List.mem_of_getElem? hx)
   have r2:(ZaF.Cells (Zv.Library b))[(Zz.Cell x).toNat]?=some c':=r2
   rw [hc1] at r2
   injection r2 with r2
   subst r2
   exact ⟨hc,⟨c2,hc2,by rw [ha];exact r3⟩,r4⟩
 ·unfold ZuA
  have:Zxg ((Zp.Instances (Zv.Design b)).set i.toNat (Zz.Name x,c,Zz.Zbh x,()),Zp.Zbh (Zv.Design b),Zp.Vk (Zv.Design b),())=Zxg (Zv.Design b):=by
   unfold Zxg
   congr 1
   show List.map ZpZ (List.set _ _ _)=_
   rw [List.map_set]
   exact Zc0 (by rw [List.getElem?_map,hx];rfl)
  rw [this]
  exact ho
 ·intro k w hk
  have:=hw k w hk
  unfold sinks at *
  have hpl2:places (Zv.Design ((Zv.Library b,((Zp.Instances (Zv.Design b)).set i.toNat (Zz.Name x,c,Zz.Zbh x,()),Zp.Zbh (Zv.Design b),Zp.Vk (Zv.Design b),()),Zv.ZlA b,()):Zv))=places (Zv.Design b):=hpl
  rw [hpl2]
  exact this
 ·refine Zs0 b1 (Ztr ⟨by rw [List.length_set];exact s1.1,fun y hy=>?_⟩ s3 s2) b3
  rcases hmem y hy with hy | hy
  ·exact s1.2 y hy
  ·subst hy
   obtain ⟨q1,q2⟩:=ZuV (ZqC s1 hx)
   exact ZxA q1 (Zo9 q2)
theorem Zyu {b:Zv} (h:ZqJ b) {n:Int} (hn:Zre (Zv.Design b) n) {w:QH} (hw:ZrY w ((sinks (Zv.Design b) n).length:Int)) (hs:sm ZjY w):ZqJ (Zy5 b n w):=by
 obtain ⟨b1,b2,b3⟩:=Zrd h.sm
 obtain ⟨hD,hwn,hW⟩:=h.ok
 refine ⟨⟨hD,by show (List.set _ _ _).length=_;rw [List.length_set];exact hwn,?_⟩,Zs0 b1 b2 ⟨by rw [List.length_set];exact b3.1,fun y hy=>?_⟩⟩
 ·intro k y hk
  have hk:((Zv.ZlA b).set n.toNat w)[k]?=some y:=hk
  rw [List.getElem?_set] at hk
  split at hk
  ·rename_i e
   split at hk
   ·injection hk with hk
    subst hk
    rw [←e]
    show ZrY w ((sinks (Zv.Design b) ((n.toNat:Nat):Int)).length:Int)
    rw [show ((n.toNat:Nat):Int)=n by have:=hn.1;omega]
    exact hw
   ·cases hk
  ·exact hW k y hk
 ·rcases List.mem_or_eq_of_mem_set hy with hy | hy
  ·exact b3.2 y hy
  ·rw [hy];exact hs
theorem Zt2 {b:Zv} (h:ZqJ b) {e:Zbk} {k:Nat} {p q:Pl} (hp:(places (Zv.Design b))[k]?=some p):(places (addInst (Zv.Design b) (Zum b e q) (Zbk.Name e)))[ZvE b k]?=some p:=by
 unfold ZvE
 by_cases hk:k<Zpg (Zv.Design b)
 ·rw [if_pos hk,ZwH hk];exact hp
 ·rw [if_neg hk]
  have:=ZvO (d:=Zv.Design b) (x:=Zum b e q) (s:=Zbk.Name e) (k:=k) (by omega)
  rw [show (Zz.Zbh (Zum b e q)).length=2 from rfl] at this
  rw [this];exact hp
theorem Zx6 {d:Zp} {k:Nat} {p:Pl} (hp:(places d)[k]?=some p) (h1:p.1<((Zp.Instances d).length:Int)∨True):p.1<((Zp.Instances d).length:Int):=by
 rcases Zqo hp with ⟨i,j,x,m,hx,hn,e,rfl⟩ | ⟨j,q,hq,e,rfl⟩
 ·have:=(List.getElem?_eq_some_iff.1 hx).1
  show (i:Int)<_
  omega
 ·show (-1:Int)<_
  omega
theorem Zt6 {b:Zv} {e:Zbk} {k:Nat} {p:Pl} (hp:(places (Zv.Design b))[k]?=some p):ZtC b e p=conn (addInst (Zv.Design b) (Zum b e p) (Zbk.Name e)) p.1 p.2.1 ((Zp.Zbh (Zv.Design b)).length:Int) :=
 (Zx0 (Zx6 hp (.inr trivial))).symm
theorem ZAj:ZrY ZxK 0:=by
 refine ⟨⟨by decide,by decide⟩,rfl,rfl,rfl,fun k x hk=>?_,?_,?_,?_⟩
 ·match k,hk with
  | 0,hk =>
   injection hk with hk
   exact ⟨fun _=>⟨hk.symm,rfl⟩,fun h=>by omega⟩
  | k+1,hk=>cases hk
 ·intro x hx
  rw [show QH.Res ZxK=[0] from rfl,List.mem_singleton] at hx
  omega
 ·intro x hx
  rw [show QH.Cap ZxK=[0] from rfl,List.mem_singleton] at hx
  omega
 ·intro x hx
  cases hx
theorem ZzS {b:Zv} (h:ZqJ b) {e:Zbk} {k:Nat} {p:Pl} (hp:(places (Zv.Design b))[k]?=some p) (h2:p.2.2.2.1=false) :
  Fits (places (addInst (Zv.Design b) (Zum b e p) (Zbk.Name e))) (Zv.ZlA b++[ZxK]) (Zxs (Zpz b) (Zpg (Zv.Design b)) (Zpz b k)):=by
 have hf:=h.ok.1.few
 have hold:=Zvh h
 have hws:∀ (m:Int) (w:QH),Zre (Zv.Design b) m→(Zv.ZlA b++[ZxK])[m.toNat]?=some w→(Zv.ZlA b)[m.toNat]?=some w:=fun m w hm hw=>by
  rw [List.getElem?_append_left (by rw [h.ok.2.1];unfold Zre at hm;omega)] at hw
  exact hw
 intro j q w hq hd hw
 unfold Zxs
 have hil:Zpg (Zv.Design b)≤Zpg (Zv.Design b):=Nat.le_refl _
 by_cases c1:j<Zpg (Zv.Design b)
 ·rw [if_pos c1]
  rw [ZwH c1] at hq
  exact hold j q w hq hd (hws _ _ (Zp0 h.ok.1 (List.mem_of_getElem? hq)) hw)
 ·rw [if_neg c1]
  by_cases c2:j=Zpg (Zv.Design b)
  ·rw [if_pos c2]
   have:=add_mid (d:=Zv.Design b) (x:=Zum b e p) (s:=Zbk.Name e) (j:=0) (by show 0<2;omega)
   rw [Nat.add_zero,←c2,hq] at this
   have e1:q=ZrW (Zp.Instances (Zv.Design b)).length (Zum b e p) 0 p.2.2.1:=by
    have h3:=Zsj (i:=(Zp.Instances (Zv.Design b)).length) (x:=Zum b e p) (j:=0) (n:=p.2.2.1) rfl
    rw [←this] at h3
    injection h3
   have e2:q.2.2.1=p.2.2.1:=by rw [e1];rfl
   rw [e2] at hw
   exact hold k p w hp h2 (hws _ _ (Zp0 h.ok.1 (List.mem_of_getElem? hp)) hw)
  ·rw [if_neg c2]
   by_cases c3:j=Zpg (Zv.Design b)+1
   ·exfalso
    have:=add_mid (d:=Zv.Design b) (x:=Zum b e p) (s:=Zbk.Name e) (j:=1) (by show 1<2;omega)
    rw [←c3,hq] at this
    have h3:=Zsj (i:=(Zp.Instances (Zv.Design b)).length) (x:=Zum b e p) (j:=1) (n:=((Zp.Zbh (Zv.Design b)).length:Int)) rfl
    rw [←this] at h3
    injection h3 with h3
    rw [h3] at hd
    revert hd
    show ¬(decide ((1:Int)=Wq ((2:Int)-1))=false)
    rw [XD (by omega) (by omega)]
    simp
   ·rw [if_neg c3]
    have:=ZvO (d:=Zv.Design b) (x:=Zum b e p) (s:=Zbk.Name e) (k:=j-2) (by omega)
    rw [show (Zz.Zbh (Zum b e p)).length=2 from rfl,show j-2+2=j by omega,hq] at this
    exact hold (j-2) q w this.symm hd (hws _ _ (Zp0 h.ok.1 (List.mem_of_getElem? this.symm)) hw)
theorem ZxS {α:Type} {p:α→Bool} {l:List α} (h:Zrm p l<0):∀ x∈l,p x=false:=by
 intro x hx
 cases hp:p x with
 | false=>rfl
 | true =>
  have:=ZrE.2 (List.any_eq_true.2 ⟨x,hx,hp⟩)
  omega
theorem Zt7 {b:Zv} {e:Zbk} (h:ZtQ b e) (k2:Zbk.Kind e=2) (hs:sm .str (Zbk.Name e)) {p:Pl} (hp:ZrD b e p):ZqJ (buffered b e (Zbk.Place e).toNat p):=by
 have hB:=h.blk
 obtain ⟨b1,b2,b3⟩:=Zrd hB.sm
 obtain ⟨l1,l2⟩:=h.lim k2
 obtain ⟨p',c,hp',hd,hc,hk,hpins,hname,hni,hnn⟩:=h.poss.2.1 k2
 have:p'=p:=by
  have:=hp'.2
  rw [hp.2] at this
  injection this with this
  exact this.symm
 subst this
 obtain ⟨_,hcr⟩:=h.range.1 (.inr k2)
 have hc2:(ZaF.Cells (Zv.Library b))[(Zbk.Cell e).toNat]?=some c:=by
  have:=hc
  unfold atI at this
  rw [if_pos hcr.1] at this
  exact this
 have hA:Zqm (Zv.Library b) (addInst (Zv.Design b) (Zum b e p') (Zbk.Name e)):=by
  refine ZAz hB.ok.1 hname (fun hm=>?_) (fun hm=>?_) l1 l2 hcr.1 hcr.2 hc2 hpins (Zp0 hB.ok.1 hp.mem)
  ·obtain ⟨x,hx,e1⟩:=List.mem_map.1 hm
   have:=ZxS hni x hx
   simp [e1] at this
  ·have:=ZxS hnn _ hm
   simp at this
 have hN:Zre (addInst (Zv.Design b) (Zum b e p') (Zbk.Name e)) ((Zp.Zbh (Zv.Design b)).length:Int):=by
  unfold Zre
  show 0≤_∧_≤((Zp.Zbh (Zv.Design b)++[Zbk.Name e]).length:Int)-1
  rw [List.length_append,List.length_singleton]
  omega
 have hpk:=Zt2 (e:=e) (q:=p') hB hp.2
 have hD:Zqm (Zv.Library b) (ZtC b e p'):=by
  rw [Zt6 hp.2]
  exact ZyC hA hpk hd hN
 have hl:=Zck hD.few
 have hwn:=hB.ok.2.1
 have hpl:places (ZtC b e p')=(places (addInst (Zv.Design b) (Zum b e p') (Zbk.Name e))).set (ZvE b (Zbk.Place e).toNat) (p'.1,p'.2.1,((Zp.Zbh (Zv.Design b)).length:Int),p'.2.2.2.1,()):=by
  rw [Zt6 hp.2]
  exact ZpN hpk _
 refine ⟨⟨hD,?_,?_⟩,?_⟩
 ·show (wired (places (ZtC b e p')) (Zv.ZlA b++[ZxK]) (Zyy b (Zbk.Place e).toNat)).length=(Zp.Zbh (conn (Zv.Design b) p'.1 p'.2.1 _)++[Zbk.Name e]).length
  rw [ZtH,List.length_append,List.length_append,ZpO,hwn]
  rfl
 ·refine Zyd (pl:=places (ZtC b e p')) (fun v w hw=>?_) ?_
  ·by_cases hv:v<(Zv.ZlA b).length
   ·rw [List.getElem?_append_left hv] at hw
    exact ⟨_,hB.ok.2.2 v w hw⟩
   ·rw [List.getElem?_append_right (by omega)] at hw
    have:=List.mem_of_getElem? hw
    rw [List.mem_singleton] at this
    rw [this]
    exact ⟨_,ZAj⟩
  ·rw [hpl]
   refine (ZzS hB hp.2 hd).set _ 0 (fun w hw=>?_)
   rw [Int.toNat_natCast,←hwn,List.getElem?_append_right (Nat.le_refl _),Nat.sub_self] at hw
   injection hw with hw
   rw [←hw]
   exact ⟨Int.le_refl _,by show (0:Int)≤(1:Int)-1;omega⟩
 ·refine Zs0 b1 ?_ (Zx9 ⟨?_,fun y hy=>?_⟩ (by omega))
  ·exact ZAF (ZyH b2 _ _ _) (by rw [ZpC];omega) (by rw [ZpO];omega) (ZxA hs (by show 2≤_;omega)) hs
  ·rw [List.length_append,List.length_singleton]
   have:=hB.ok.1.2.1.2.1
   omega
  ·rcases List.mem_append.1 hy with hy | hy
   ·exact b3.2 y hy
   ·rw [List.mem_singleton] at hy
    rw [hy]
    exact ZuG (by decide) (by decide) (by decide) (by decide)
/-
  Plain laws: a block with a buffer less is valid.
-/
theorem Fits.cut {d:Zp} {ws:List QH} {nd:Nat→Int} (h:Fits (places d) ws nd) {x:Zz} (hn:0<(Zp.Instances d).length) (hx:(Zp.Instances d)[(Zp.Instances d).length-1]?=some x) (h2:(Zz.Zbh x).length=2) (m:Nat) :
  Fits (places (Zpx d)) (ws.take m) (Zxt nd (Zpg (Zpx d))):=by
 intro k p w hp hd hw
 rw [List.getElem?_take] at hw
 split at hw
 ·unfold Zxt
  have hpc:=ZuE (s:=[]) hn hx
  by_cases c:k<Zpg (Zpx d)
  ·rw [if_pos c]
   exact h k p w (by rw [hpc,ZwH c];exact hp) hd hw
  ·rw [if_neg c]
   have:=ZvO (d:=Zpx d) (x:=x) (s:=[]) (k:=k) (by omega)
   rw [h2] at this
   exact h (k+2) p w (by rw [hpc,this];exact hp) hd hw
 ·cases hw
theorem ZsZ (d:Zp):(places d).length=Zpg d+(Zp.Vk d).length:=by
 unfold places Zpg
 rw [List.length_append,Zyn]
theorem Zt3 {d:Zp} {k:Nat} {p:Pl} (hp:(places d)[k]?=some p) (n:Int):Zpg (conn d p.1 p.2.1 n)=Zpg d:=by
 have h1:=ZsZ d
 have h2:=ZsZ (conn d p.1 p.2.1 n)
 rw [ZpN hp,List.length_set,ZuB] at h2
 omega
theorem ZuU {b:Zv} (h:ZqJ b) (hL:Zuz b) {k:Nat} {p:Pl} {m:Int} (hs:sinks (Zv.Design b) (((Zp.Zbh (Zv.Design b)).length:Int)-1)=[(k:Int)]) (hp:(places (Zv.Design b))[k]?=some p) (hpi:p.1≠((Zp.Instances (Zv.Design b)).length:Int)-1)
  (hm:∀ x,(Zp.Instances (Zv.Design b))[(Zp.Instances (Zv.Design b)).length-1]?=some x→atI (Zz.Zbh x) 0=some m):ZqJ (ZpS b k p m):=by
 obtain ⟨b1,b2,b3⟩:=Zrd h.sm
 obtain ⟨k',p',hs',hp',hpn,hpd,hpi'⟩:=hL.sink h
 have ek:k=k':=by
  rw [hs] at hs'
  injection hs' with hs' _
  omega
 subst ek
 rw [hp] at hp'
 injection hp' with hp'
 subst hp'
 obtain ⟨x,c,w,m',hn,hx,hc,hk1,hk2,hl2,hm',hl,hne,hnm,hw,hs1,hs2,hp1,hc0⟩:=hL
 have em:m'=m:=by
  have:=hm x hx
  rw [hm'] at this
  injection this
 subst em
 have hD:=h.ok.1
 have hwn:=h.ok.2.1
 have hm0:(Zz.Zbh x)[0]?=some m':=hm'
 have hl1:(Zz.Zbh x)[1]?=some (((Zp.Zbh (Zv.Design b)).length:Int)-1):=hl
 have hmn:=(hD.2.2.1 x (List.mem_of_getElem? hx)).2.2 m' (List.mem_of_getElem? hm0)
 have hlx:ZpZ x=((Zp.Zbh (Zv.Design b)).length:Int)-1:=by
  have:=Zvi (x:=x) (by omega)
  rw [hl2,show 2-1=1 from rfl,hl1] at this
  injection this with this
  exact this.symm
 have hC:Zqm (Zv.Library b) (conn (Zv.Design b) p.1 p.2.1 m'):=ZyC hD hp hpd hmn
 have hn2:0<(Zp.Instances (conn (Zv.Design b) p.1 p.2.1 m')).length:=by rw [ZpC];exact hn
 have hx2:(Zp.Instances (conn (Zv.Design b) p.1 p.2.1 m'))[(Zp.Instances (conn (Zv.Design b) p.1 p.2.1 m')).length-1]?=some x:=by
  have hy:(Zp.Instances (conn (Zv.Design b) p.1 p.2.1 m'))[(Zp.Instances (conn (Zv.Design b) p.1 p.2.1 m')).length-1]?=some ((Zp.Instances (conn (Zv.Design b) p.1 p.2.1 m'))[(Zp.Instances (conn (Zv.Design b) p.1 p.2.1 m')).length-1]'(by omega)):=List.getElem?_eq_getElem _
  generalize (Zp.Instances (conn (Zv.Design b) p.1 p.2.1 m'))[(Zp.Instances (conn (Zv.Design b) p.1 p.2.1 m')).length-1]'(by omega)=y at hy
  obtain ⟨x',hx',_,_,_,he,_⟩:=Zs5 hy
  rw [ZpC,hx] at hx'
  injection hx' with hx'
  rw [hy,hx',he (by rw [ZpC];omega)]
 have hsn:∀ q∈places (conn (Zv.Design b) p.1 p.2.1 m'),q.2.2.2.1=false→q.2.2.1≠((Zp.Zbh (conn (Zv.Design b) p.1 p.2.1 m')).length:Int)-1:=by
  intro q hq hd e
  rw [ZpO] at e
  rw [ZpN hp] at hq
  obtain ⟨j,hj⟩:=List.getElem?_of_mem hq
  rw [List.getElem?_set] at hj
  split at hj
  ·split at hj
   ·injection hj with hj
    subst hj
    exact hne e
   ·cases hj
  ·rename_i hjk
   have h3:=ZuF hj e hd
   have h4:(sinks (Zv.Design b) (((Zp.Zbh (Zv.Design b)).length:Int)-1))[nth (places (Zv.Design b)) (((Zp.Zbh (Zv.Design b)).length:Int)-1) j]?=some (j:Int):=h3
   rw [hs] at h4
   have h5:=List.mem_of_getElem? h4
   rw [List.mem_singleton] at h5
   exact absurd (by omega) hjk
 have hU:Zqm (Zv.Library b) (unD b p m'):=ZAD hC hn2 hx2 (by rw [ZpO];exact hlx) hsn
 have hins:Zpg (unD b p m')=Zpg (Zv.Design b)-2:=by
  have h1:=Zuf hn2 hx2 hl2
  have h2:=Zt3 hp m'
  unfold unD
  omega
 have hpl:=Zck hU.few
 refine ⟨⟨hU,?_,?_⟩,?_⟩
 ·show (wired (places (unD b p m')) ((Zv.ZlA b).take ((Zv.ZlA b).length-1)) (unN b k)).length=((Zp.Zbh (conn (Zv.Design b) p.1 p.2.1 m')).take ((Zp.Zbh (conn (Zv.Design b) p.1 p.2.1 m')).length-1)).length
  rw [ZtH,List.length_take,List.length_take,ZpO,hwn]
 ·refine Zyd (pl:=places (unD b p m')) (fun v w hw=>?_) ?_
  ·rw [List.getElem?_take] at hw
   split at hw
   ·exact ⟨_,h.ok.2.2 v w hw⟩
   ·cases hw
  ·have h1:Fits (places (conn (Zv.Design b) p.1 p.2.1 m')) (Zv.ZlA b) (mvN b k (Zpz b (Zpg (Zv.Design b)-2))):=by
    rw [ZpN hp]
    refine (Zvh h).set m' _ (fun w' hw'=>?_)
    have h5:=ZsY hx hm0
    rw [Nat.add_zero,ZxT hn hx hl2] at h5
    refine Zvh h _ _ w' h5 ?_ hw'
    show decide ((0:Int)=Wq (((Zz.Zbh x).length:Int)-1))=false
    rw [hl2,XD (by omega) (by omega)]
    decide
   have h2:=h1.cut hn2 hx2 hl2 ((Zv.ZlA b).length-1)
   have h3:Zpg (Zpx (conn (Zv.Design b) p.1 p.2.1 m'))=Zpg (Zv.Design b)-2:=hins
   rw [h3] at h2
   exact h2
 ·exact Zs0 b1 (ZAH (ZyH b2 _ _ _)) (Zx9 (ZyI b3 _) (by omega))
/-
  Plain laws: the reference's own copies; places connected, sinks attached (reference); edits applied.
-/
theorem Zw5 (t:Jy) (ht:sm ZdQ t):ZuO t=some t:=by
 have e1:=Zte (Jy.ZoG t) (Zo9 (t:=.int .i64) ht.1)
 have e2:=Zte (Jy.Loads t) (Zo9 (t:=.int .i64) ht.2.1)
 have e3:=Zte (Jy.Values t) (Zo9 (t:=.int .i64) ht.2.2.1)
 unfold ZuO
 rw [e1,e2,e3]
 rfl
theorem ZuH (l:List Jy) (hl:sm (.sl ZdQ) l):ZrA l=some l:=by
 have h1:=Zo9 hl
 unfold ZrA
 have:=ZgW (l:=l) (fun k=>(l.take k,(k:Int),())) (step:=fun v=>ZqH l v.1 v.2.1) (good:=l) (fun k x hx hk=>by
  have hg:((l.take k).length+[x].length)*72≤140737488355328:=by rw [List.length_take,List.length_singleton];omega
  simp only [ZqH,show (k:Int)<(l.length:Int) by omega,if_true,VU,hx,Bq,Zw5 x (ZqC hl hx),ZB hg,Zkd (show k≤1048576 by omega)]
  rw [JI hx]) (by
  simp only [ZqH,Int.lt_irrefl,if_false,List.take_length])
 simpa using this
theorem ZxF (c:QG) (hs:sm Zin c):ZuQ c=some c:=by
 have p1:sm (.sl Zl9) (QG.ZoY c):=hs.2.2.1
 have p2:sm (.sl Zmv) (QG.ZoW c):=hs.2.2.2.1
 have p3:sm (.sl (.int .i64)) (QG.Truth c):=hs.2.2.2.2.1
 have l1:=Zo9 p1
 have l2:=Zo9 p2
 have l3:=Zo9 p3
 unfold ZuQ
 rw [ZB (by rw [List.length_nil];omega),Zte _ l3,Bq]
 have:=ZgW (l:=QG.ZoW c) (fun k=>((k:Int),(QG.ZoW c).take k,())) (step:=fun v=>Zsn c (QG.Truth c) v.1 v.2.1) (good:=c) (fun k x hx hk=>by
  obtain ⟨q1,q2⟩:=Zz1 (ZqC p2 hx)
  have hg:∀ y:ZfN,(((QG.ZoW c).take k).length+[y].length)*80≤140737488355328:=fun y=>by rw [List.length_take,List.length_singleton];omega
  simp only [Zsn,show (k:Int)<((QG.ZoW c).length:Int) by omega,if_true,VU,hx,Bq,ZuH _ q1,ZuH _ q2,ZB (hg _),Zkd (show k≤1048576 by omega)]
  rw [JI hx]) (by
  simp only [Zsn,Int.lt_irrefl,if_false,List.take_length]
  rfl)
 simpa using this
theorem Zv5 (a:ZaF) (ha:sm Zc3 a):Zr5 a=some a:=by
 have hc:=Zw1 ha
 have h1:=Zo9 hc
 unfold Zr5
 have:=ZgW (l:=ZaF.Cells a) (fun k=>((k:Int),(ZaF.Cells a).take k,())) (step:=fun v=>Zqy a v.1 v.2.1) (good:=a) (fun k x hx hk=>by
  have hg:(((ZaF.Cells a).take k).length+[x].length)*112≤140737488355328:=by rw [List.length_take,List.length_singleton];omega
  simp only [Zqy,show (k:Int)<((ZaF.Cells a).length:Int) by omega,if_true,VU,hx,Bq,ZxF x (ZqC hc hx),ZB hg,Zkd (show k≤1048576 by omega)]
  rw [JI hx]) (by
  simp only [Zqy,Int.lt_irrefl,if_false,List.take_length])
 simpa using this
theorem ZwF (d:Zp) (hd:sm ZdN d):ZuS d=some d:=by
 obtain ⟨s1,s2,s3⟩:=Zrk hd
 have l1:=Zo9 s1
 have l2:=Zo9 s2
 have l3:=Zo9 s3
 unfold ZuS
 rw [ZB (by rw [List.length_nil];omega),ZB (by rw [List.length_nil];omega)]
 have:=ZgW (l:=Zp.Instances d) (fun k=>((k:Int),(Zp.Instances d).take k,())) (step:=fun v=>Zsp d v.1 v.2.1) (good:=d) (fun k x hx hk=>by
  have hx2:=Zte (Zz.Zbh x) (Zo9 (ZuV (ZqC s1 hx)).2)
  have hg:∀ y:Zz,(((Zp.Instances d).take k).length+[y].length)*48≤140737488355328:=fun y=>by rw [List.length_take,List.length_singleton];omega
  simp only [Zsp,show (k:Int)<((Zp.Instances d).length:Int) by omega,if_true,VU,hx,Bq,hx2,ZB (hg _),Zkd (show k≤1048576 by omega)]
  rw [JI hx]) (by
  simp only [Zsp,Int.lt_irrefl,if_false,List.take_length]
  rfl)
 simpa using this
theorem ZxG (b:Zv) (hb:sm ZjX b):Zuk b=some b:=by
 obtain ⟨b1,b2,b3⟩:=Zrd hb
 have h1:=Zo9 b3
 unfold Zuk
 rw [Zv5 _ b1,Bq,ZwF _ b2,Bq]
 have:=ZgW (l:=Zv.ZlA b) (fun k=>((k:Int),(Zv.ZlA b).take k,())) (step:=fun v=>Zsq b (Zv.Library b) (Zv.Design b) v.1 v.2.1) (good:=b) (fun k x hx hk=>by
  have hg:(((Zv.ZlA b).take k).length+[x].length)*96≤140737488355328:=by rw [List.length_take,List.length_singleton];omega
  simp only [Zsq,show (k:Int)<((Zv.ZlA b).length:Int) by omega,if_true,VU,hx,Bq,Zvd x (ZqC b3 hx),ZB hg,Zkd (show k≤1048576 by omega)]
  rw [JI hx]) (by
  simp only [Zsq,Int.lt_irrefl,if_false,List.take_length])
 simpa using this
theorem Zuj {d:Zp} {k:Nat} {p:Pl} (hp:(places d)[k]?=some p) (n:Int):ZrB d p n=some (conn d p.1 p.2.1 n):=by
 unfold ZrB conn
 rcases Zqo hp with ⟨i,j,x,m,hx,hn,e,rfl⟩ | ⟨j,q,hq,e,rfl⟩
 ·have c:¬((i:Int)<0):=by omega
  simp only [ZrW,Zk.instance,Zk.pin,if_neg c,VU,hx,Bq,Int.toNat_natCast]
  have hn2:x.2.2.1[j]?=some m:=hn
  rw [hn2]
  rfl
 ·have c:((-1:Int)<0):=by omega
  simp only [Zk.instance,Zk.pin,if_pos c,VU,hq,Bq,Int.toNat_natCast]
  rfl
def ZzH (pl:List Pl) (ws:List QH) (nd:Nat→Int) (k:Nat):List QH:=cat (fun v w=>[if v<k then Zrx w ((cat (Zg9 (v:Int)) 0 pl).map (fun k=>nd k.toNat)) else w]) 0 ws
theorem Zvj (pl:List Pl) (ws:List QH) (nd:Nat→Int) (k v:Nat):(ZzH pl ws nd k)[v]?=(ws[v]?).map (fun w=>if v<k then Zrx w ((cat (Zg9 (v:Int)) 0 pl).map (fun k=>nd k.toNat)) else w):=by
 unfold ZzH
 rw [Zr7,Nat.zero_add]
theorem Zye (pl:List Pl) (ws:List QH) (nd:Nat→Int) (k:Nat):(ZzH pl ws nd k).length=ws.length:=Zra _ _
theorem ZzJ (pl:List Pl) (ws:List QH) (nd:Nat→Int):ZzH pl ws nd 0=ws:=by
 apply List.ext_getElem?
 intro v
 rw [Zvj]
 simp
theorem Zz9 (pl:List Pl) (ws:List QH) (nd:Nat→Int):ZzH pl ws nd ws.length=wired pl ws nd:=by
 apply List.ext_getElem?
 intro v
 rw [Zvj,ZpT]
 cases hv:ws[v]? with
 | none=>rfl
 | some w =>
  have:=(List.getElem?_eq_some_iff.1 hv).1
  simp only [Option.map_some,if_pos this]
theorem ZzI {pl:List Pl} {ws:List QH} {nd:Nat→Int} {k:Nat} {w:QH} (hw:ws[k]?=some w):(ZzH pl ws nd k)[k]?=some w∧(ZzH pl ws nd k).set k (Zrx w ((cat (Zg9 (k:Int)) 0 pl).map (fun k=>nd k.toNat)))=ZzH pl ws nd (k+1):=by
 constructor
 ·rw [Zvj,hw];simp
 ·apply List.ext_getElem?
  intro v
  rw [List.getElem?_set,Zye]
  split
  ·rename_i e
   subst e
   rw [if_pos (List.getElem?_eq_some_iff.1 hw).1,Zvj,hw,Option.map_some,if_pos (by omega)]
  ·rw [Zvj,Zvj]
   congr 1
   funext w'
   by_cases h:v<k
   ·rw [if_pos h,if_pos (by omega)]
   ·rw [if_neg h,if_neg (by omega)]
theorem Zux {b:Zv} {nodes:List Int} (hf:Few (Zv.Design b)) (hl:nodes.length=(places (Zv.Design b)).length) (hw:(Zv.ZlA b).length≤1048576) :
  Zqv b nodes=some (Zv.Library b,Zv.Design b,wired (places (Zv.Design b)) (Zv.ZlA b) (Zxu nodes),()):=by
 have hpl:=Zck hf
 unfold Zqv
 have:=ZgW (l:=Zv.ZlA b) (fun k=>((k:Int),ZzH (places (Zv.Design b)) (Zv.ZlA b) (Zxu nodes) k,())) (step:=fun v=>Zrl b nodes v.1 v.2.1) (good:=(Zv.Library b,Zv.Design b,wired (places (Zv.Design b)) (Zv.ZlA b) (Zxu nodes),())) (fun k w hk hlt=>by
  obtain ⟨a1,a2⟩:=ZzI (nd:=Zxu nodes) (pl:=places (Zv.Design b)) hk
  have hlc:(sinks (Zv.Design b) (k:Int)).length≤(places (Zv.Design b)).length:=Zgm (k:Int) (places (Zv.Design b)) 0
  simp only [Zrl]
  rw [if_pos (show (k:Int)<(((ZzH (places (Zv.Design b)) (Zv.ZlA b) (Zxu nodes) k).length:Nat):Int) by rw [Zye];omega),ZcT _ _ hf,Bq]
  refine ZgW (l:=sinks (Zv.Design b) (k:Int)) (fun i=>(((sinks (Zv.Design b) (k:Int)).take i).map (fun x=>Zxu nodes x.toNat),(i:Int),())) (fun i x hx hi=>?_) ?_
  ·obtain ⟨j,p,hp,ex,hn,h2,hnth⟩:=Zv2 (pl:=places (Zv.Design b)) hx
   have hj:=(List.getElem?_eq_some_iff.1 hp).1
   have hnj:nodes[j]?=some (Zxu nodes j):=by
    unfold Zxu
    rw [List.getElem?_eq_getElem (by omega)]
    rfl
   simp only [Zsz,show (i:Int)<((sinks (Zv.Design b) (k:Int)).length:Int) by omega,if_true,VU,hx,Bq]
   have et:=JI hx
   subst ex
   rw [VU,hnj,Bq,ZB (by rw [List.length_map,List.length_take,List.length_singleton];omega),Zkd (show i≤1048576 by omega),et,List.map_append]
   rfl
  ·simp only [Zsz,Int.lt_irrefl,if_false,VU,a1,Bq,Zkd (show k≤1048576 by omega),Int.toNat_natCast,List.take_length]
   rw [←a2]
   rfl) (by
  simp only [Zrl]
  rw [if_neg (show ¬(((Zv.ZlA b).length:Nat):Int)<(((ZzH (places (Zv.Design b)) (Zv.ZlA b) (Zxu nodes) (Zv.ZlA b).length).length:Nat):Int) by rw [Zye];omega),Zz9])
 rw [ZzJ] at this
 exact this
theorem ZwA (b:Zv):Zxu (ZrC b)=Zpz b:=by
 funext k
 unfold Zxu
 by_cases hk:k<(places (Zv.Design b)).length
 ·rw [Zu6 hk];rfl
 ·rw [List.getElem?_eq_none (by rw [Zrv];omega)]
  unfold Zpz
  rw [List.getElem?_eq_none (by omega)]
  rfl
theorem ZwK {b:Zv} (h:ZqJ b) {k:Nat} {p:Pl} (hp:(places (Zv.Design b))[k]?=some p) (h2:p.2.2.2.1=false) {n v:Int} (hn:Zre (Zv.Design b) n) :
  Zqb (Zv.Library b,conn (Zv.Design b) p.1 p.2.1 n,Zv.ZlA b,()) (ZkM Key (.int .i64) (Zrw (places (Zv.Design b)) (Zpz b) (places (Zv.Design b)).length) (ZyQ p) v)=some (moved b k p n v):=by
 have hM:=((ZuD (Zv.Design b) (Zpz b)).put hp v).set hp n
 rw [←ZpN hp n] at hM
 have hwl:(Zv.ZlA b).length≤1048576:=Zo9 (Zrd h.sm).2.2
 have hn1:n<((Zv.ZlA b).length:Int):=by rw [h.ok.2.1];have:=hn.2;omega
 exact Zud (b:=(Zv.Library b,conn (Zv.Design b) p.1 p.2.1 n,Zv.ZlA b,())) (h.ok.1.few.conn p.1 p.2.1 n) hM (by
  show Zvt (places (conn (Zv.Design b) p.1 p.2.1 n)) (Zv.ZlA b).length
  rw [ZpN hp]
  refine Zvt.set (fun q hq hd=>?_) hn.1 hn1
  have:=Zp0 h.ok.1 hq
  rw [h.ok.2.1]
  exact ⟨this.1,by have:=this.2;omega⟩) hwl
theorem Zyr {b:Zv} (h:ZqJ b) {k:Nat} {p:Pl} (hp:(places (Zv.Design b))[k]?=some p) (n v:Int) :
  Zqv (Zv.Library b,conn (Zv.Design b) p.1 p.2.1 n,Zv.ZlA b,()) ((ZrC b).set k v)=some (moved b k p n v):=by
 have hk:=(List.getElem?_eq_some_iff.1 hp).1
 have hf:=h.ok.1.few.conn p.1 p.2.1 n
 have e:=Zux (b:=(Zv.Library b,conn (Zv.Design b) p.1 p.2.1 n,Zv.ZlA b,())) (nodes:=(ZrC b).set k v) hf (by
  show ((ZrC b).set k v).length=(places (conn (Zv.Design b) p.1 p.2.1 n)).length
  rw [List.length_set,Zrv,ZpN hp,List.length_set]) (Zo9 (Zrd h.sm).2.2)
 rw [e]
 have e2:Zxu ((ZrC b).set k v)=mvN b k v:=by
  funext j
  rw [Zx3 (by rw [Zrv];exact hk),ZwA]
  rfl
 rw [e2]
 rfl
/-
  Plain laws: a buffer put in, a buffer taken away: the program and the reference; edits applied.
-/
theorem Zzw {b:Zv} (h:ZqJ b):Zvt (places (Zv.Design b)) (Zv.ZlA b).length:=fun q hq _=>by
 have:=Zp0 h.ok.1 hq
 rw [h.ok.2.1]
 exact ⟨this.1,by have:=this.2;omega⟩
theorem ZxV (pl:List Pl) (ws:List QH) (nd:Nat→Int) {w w':QH} (h:∀ l,Zrx w l=Zrx w' l):wired pl (ws++[w]) nd=wired pl (ws++[w']) nd:=by
 unfold wired
 rw [ZeE,ZeE]
 simp only [cat,h]
theorem Zvy {b:Zv} {e:Zbk} (h:ZtQ b e) (k2:Zbk.Kind e=2) (hs:sm .str (Zbk.Name e)) {p:Pl} (hp:ZrD b e p) (hd:p.2.2.2.1=false):Zsf b e=some (buffered b e (Zbk.Place e).toNat p):=by
 have hB:=h.blk
 have hf:=hB.ok.1.few
 have h14:=hf.insts
 have h30:=hB.ok.1.2.1.2.1
 have hwn:=hB.ok.2.1
 have hR:=Zt7 h k2 hs hp
 have hpk:=Zt2 (e:=e) (q:=p) hB hp.2
 have hM0:=ZuD (Zv.Design b) (Zpz b)
 have hv:Zjr Key (.int .i64) (Zrw (places (Zv.Design b)) (Zpz b) (places (Zv.Design b)).length) (p.1,p.2.1,())=some (Zpz b (Zbk.Place e).toNat):=hM0 _ p hp.2 hd
 have hM1:=hM0.add (x:=Zum b e p) (s:=Zbk.Name e) rfl (by omega) (Zpz b (Zbk.Place e).toNat)
 have hM2:=(hM1.put hpk 0).set hpk ((Zp.Zbh (Zv.Design b)).length:Int)
 rw [←ZpN hpk,←Zt6 hp.2] at hM2
 have hN:=Zzw hR
 have hl:(Zv.ZlA (buffered b e (Zbk.Place e).toNat p)).length=(Zv.ZlA b++[ZxK]).length:=ZtH _ _ _
 rw [hl] at hN
 have hC:=Zud (b:=(Zv.Library b,ZtC b e p,Zv.ZlA b++[ZxK],())) hR.ok.1.few hM2 hN (by
  show (Zv.ZlA b++[ZxK]).length≤_
  rw [List.length_append,List.length_singleton];omega)
 have hS:=Zty (b:=(Zv.Library b,addInst (Zv.Design b) (Zum b e p) (Zbk.Name e),Zv.ZlA b++[ZxK],())) hpk ((Zp.Zbh (Zv.Design b)).length:Int)
 have eS:conn (Zv.Design ((Zv.Library b,addInst (Zv.Design b) (Zum b e p) (Zbk.Name e),Zv.ZlA b++[ZxK],()):Zv)) p.1 p.2.1 ((Zp.Zbh (Zv.Design b)).length:Int)=ZtC b e p:=(Zt6 hp.2).symm
 rw [eS] at hS
 unfold Zsf
 rw [Zr9 hB,Bq,Zpj _ hf,Bq,hp.at,Bq,
  show ZpQ (Zp.Zbh (Zv.Design b))=some ((Zp.Zbh (Zv.Design b)).length:Int) from rfl,Bq,
  show Zrb (Zp.Instances (Zv.Design b))=some ((Zp.Instances (Zv.Design b)).length:Int) from rfl,Bq,
  ZB (by rw [List.length_singleton];omega),ZB (by rw [List.length_singleton];omega),ZB (by rw [List.length_singleton];omega)]
 refine Eq.trans (congrArg (fun o=>Option.bind o _) hS) ?_
 rw [Bq]
 have e3:Option.getD (Zjr Zmh (Ty.int IntKind.i64) (Zrw (places (Zv.Design b)) (Zpz b) (places (Zv.Design b)).length) (Zbl.instance p,Zbl.pin p,())) (0:Int)=Zpz b (Zbk.Place e).toNat:=by
  have:Zjr Zmh (Ty.int IntKind.i64) (Zrw (places (Zv.Design b)) (Zpz b) (places (Zv.Design b)).length) (Zbl.instance p,Zbl.pin p,())=some (Zpz b (Zbk.Place e).toNat):=hv
  rw [this];rfl
 rw [e3]
 refine Eq.trans (congrArg (fun o=>Option.bind o _) hC) ?_
 rfl
theorem Zzv {b:Zv} {k:Nat} (hk:k<(places (Zv.Design b)).length) (v:Int) (hv:v=Zpz b k) :
  Zxu (((ZrC b).take (Zpg (Zv.Design b))++[v,0]++(ZrC b).drop (Zpg (Zv.Design b))).set (ZvE b k) 0)=Zyy b k:=by
 have h2:=ZsZ (Zv.Design b)
 have hm:Zpg (Zv.Design b)≤(ZrC b).length:=by rw [Zrv];omega
 funext j
 rw [Zx3 (by
  rw [List.length_append,List.length_append,List.length_take,List.length_drop,Zrv]
  unfold ZvE
  simp only [List.length_cons,List.length_nil]
  split<;>omega),ZzV hm,ZwA,hv]
 rfl
theorem ZxO {b:Zv} {e:Zbk} (h:ZtQ b e) (k2:Zbk.Kind e=2) (hs:sm .str (Zbk.Name e)) {p:Pl} (hp:ZrD b e p) (hd:p.2.2.2.1=false):ZrT b e=some (buffered b e (Zbk.Place e).toNat p):=by
 have hB:=h.blk
 have hf:=hB.ok.1.few
 have hpl:=Zck hf
 have h14:=hf.insts
 have h8:=hf.ports
 have h30:=hB.ok.1.2.1.2.1
 have hwn:=hB.ok.2.1
 have hk:=(List.getElem?_eq_some_iff.1 hp.2).1
 have h0:=hp.1
 have h2:=ZsZ (Zv.Design b)
 have hR:=Zt7 h k2 hs hp
 have hW:Wq (((ZrC b).length:Int)-((Zp.Vk (Zv.Design b)).length:Int))=(Zpg (Zv.Design b):Int):=by
  rw [Zrv,XD (by omega) (by omega)];omega
 have hdr:List.take ((ZrC b).length-Zpg (Zv.Design b)) (List.drop (Zpg (Zv.Design b)) (ZrC b))=List.drop (Zpg (Zv.Design b)) (ZrC b):=List.take_of_length_le (by rw [List.length_drop];exact Nat.le_refl _)
 have hlump:Qi 1 0=some (([-1],[0],[0],[0],()):QH):=by
  unfold Qi
  rw [ZB (by omega),ZB (by omega),ZB (by omega),ZB (by omega)]
  rfl
 have hln:((ZrC b).take (Zpg (Zv.Design b))++[Zpz b (Zbk.Place e).toNat,0]++(ZrC b).drop (Zpg (Zv.Design b))).length=(places (Zv.Design b)).length+2:=by
  rw [List.length_append,List.length_append,List.length_take,List.length_drop,Zrv]
  simp only [List.length_cons,List.length_nil]
  omega
 have hbk:ZvE b (Zbk.Place e).toNat<(places (Zv.Design b)).length+2:=by
  unfold ZvE
  split<;>omega
 have hpl2:(places (ZtC b e p)).length=(places (Zv.Design b)).length+2:=by
  have h3:=ZsZ (ZtC b e p)
  rw [Zt6 hp.2,ZpN (Zt2 (e:=e) (q:=p) hB hp.2),List.length_set]
  rw [Zt4,List.length_append,List.length_append,Zp1,Zyn,h2]
  unfold Zpg Zum
  show _+2+_=_
  omega
 have hA:=Zux (b:=(Zv.Library b,ZtC b e p,Zv.ZlA b++[([-1],[0],[0],[0],())],())) (nodes:=((ZrC b).take (Zpg (Zv.Design b))++[Zpz b (Zbk.Place e).toNat,0]++(ZrC b).drop (Zpg (Zv.Design b))).set (ZvE b (Zbk.Place e).toNat) 0) hR.ok.1.few (by
  show (List.set _ _ _).length=(places (ZtC b e p)).length
  rw [List.length_set,hln,hpl2]) (by
  show (Zv.ZlA b++[([-1],[0],[0],[0],())]).length≤_
  rw [List.length_append,List.length_singleton];omega)
 rw [Zzv hk _ rfl] at hA
 have hA2:Zqv (Zv.Library b,ZtC b e p,Zv.ZlA b++[([-1],[0],[0],[0],())],()) ((((ZrC b).take (Zpg (Zv.Design b))++[Zpz b (Zbk.Place e).toNat,0]++(ZrC b).drop (Zpg (Zv.Design b)))).set (ZvE b (Zbk.Place e).toNat) 0)=some (buffered b e (Zbk.Place e).toNat p):=by
  rw [hA]
  show some (Zv.Library b,ZtC b e p,wired (places (ZtC b e p)) (Zv.ZlA b++[([-1],[0],[0],[0],())]) (Zyy b (Zbk.Place e).toNat),())=_
  rw [ZxV _ _ _ (w:=([-1],[0],[0],[0],())) (w':=ZxK) (fun l=>rfl)]
  rfl
 unfold ZrT
 rw [JF _ hf,Bq,hp.at,Bq,ZtM hB,Bq,Zkf hp.1 (Zu6 hk),Bq,hW]
 simp only [Int.toNat_natCast,Int.toNat_zero,Nat.sub_zero,List.drop_zero,hdr]
 have hci:(Zp.Instances (conn (Zv.Design b) p.1 p.2.1 ((Zv.ZlA b).length:Int))).length=(Zp.Instances (Zv.Design b)).length:=ZpC
 have hcn:(Zp.Zbh (conn (Zv.Design b) p.1 p.2.1 ((Zv.ZlA b).length:Int))).length=(Zp.Zbh (Zv.Design b)).length:=by rw [ZpO]
 have hl1:(List.take (Zpg (Zv.Design b)) (ZrC b)).length=Zpg (Zv.Design b):=by rw [List.length_take,Zrv];omega
 have hl2:(List.drop (Zpg (Zv.Design b)) (ZrC b)).length=(Zp.Vk (Zv.Design b)).length:=by rw [List.length_drop,Zrv];omega
 rw [ZB (by omega),ZB (by rw [Zrv];omega),Zte _ (by omega),Bq,
  ZB (by rw [hl1];simp only [List.length_cons,List.length_nil];omega),ZB (by omega),ZB (by rw [List.length_append,hl1,hl2];simp only [List.length_cons,List.length_nil];omega),
  Zuj hp.2,Bq]
 have hx:∀ (i:Nat),i<(places (Zv.Design b)).length+2→∃ y,((ZrC b).take (Zpg (Zv.Design b))++[Zpz b (Zbk.Place e).toNat,0]++(ZrC b).drop (Zpg (Zv.Design b)))[i]?=some y:=fun i hi=>⟨_,List.getElem?_eq_getElem (by rw [hln];exact hi)⟩
 have hD:((Zp.Instances (conn (Zv.Design b) p.1 p.2.1 ((Zv.ZlA b).length:Int))++[(Zbk.Name e,Zbk.Cell e,[Zk.net p,((Zv.ZlA b).length:Int)],())],Zp.Zbh (conn (Zv.Design b) p.1 p.2.1 ((Zv.ZlA b).length:Int))++[Zbk.Name e],(conn (Zv.Design b) p.1 p.2.1 ((Zv.ZlA b).length:Int)).snd.snd):Zp)=ZtC b e p:=by
  rw [hwn]
  rfl
 by_cases hc:Zpg (Zv.Design b)≤(Zbk.Place e).toNat
 ·have hbk2:ZvE b (Zbk.Place e).toNat=(Zbk.Place e).toNat+2:=by unfold ZvE;rw [if_neg (by omega)]
  obtain ⟨y,hy⟩:=hx ((Zbk.Place e).toNat+2) (by omega)
  rw [if_pos (by omega),XD (n:=Zbk.Place e+2) (by omega) (by omega),show Zbk.Place e+2=(((Zbk.Place e).toNat+2:Nat):Int) by omega,VU,hy,Bq,
   ZB (by rw [hci,List.length_singleton];omega),ZB (by rw [hcn,List.length_singleton];omega),hlump,Bq,ZB (by rw [List.length_singleton];omega),Int.toNat_natCast,←hbk2,hD]
  refine Eq.trans (congrArg (fun o=>Option.bind o _) hA2) ?_
  rfl
 ·have hbk2:ZvE b (Zbk.Place e).toNat=(Zbk.Place e).toNat:=by unfold ZvE;rw [if_pos (by omega)]
  obtain ⟨y,hy⟩:=hx (Zbk.Place e).toNat (by omega)
  rw [if_neg (by omega),Zkf hp.1 hy,Bq,
   ZB (by rw [hci,List.length_singleton];omega),ZB (by rw [hcn,List.length_singleton];omega),hlump,Bq,ZB (by rw [List.length_singleton];omega),hD]
  rw [hbk2] at hA2
  refine Eq.trans (congrArg (fun o=>Option.bind o _) hA2) ?_
  rfl
/-
  Plain laws: the reference removes a buffer; an edit applied, by program and reference.
-/
theorem Zw6 {b:Zv} (h:ZqJ b) (hL:Zuz b) {k:Nat} {p:Pl} {m:Int} (hs:sinks (Zv.Design b) (((Zp.Zbh (Zv.Design b)).length:Int)-1)=[(k:Int)]) (hp:(places (Zv.Design b))[k]?=some p) (hpi:p.1≠((Zp.Instances (Zv.Design b)).length:Int)-1)
  (hm:∀ x,(Zp.Instances (Zv.Design b))[(Zp.Instances (Zv.Design b)).length-1]?=some x→atI (Zz.Zbh x) 0=some m):ZtA b=some (ZpS b k p m):=by
 have hR:=ZuU h hL hs hp hpi hm
 obtain ⟨hn,x,hx,hl2⟩:=hL.two
 have hmx:=hm x hx
 have hf:=h.ok.1.few
 have hpl:=Zck hf
 have h14:=hf.insts
 have h8:=hf.ports
 have h30:=h.ok.1.2.1.2.1
 have hwn:=h.ok.2.1
 have hk:=(List.getElem?_eq_some_iff.1 hp).1
 have h2:=ZsZ (Zv.Design b)
 have hi2:=Zuf hn hx hl2
 have hpos:1≤(Zp.Zbh (Zv.Design b)).length:=by
  have:=Zp0 h.ok.1 (List.mem_of_getElem? hp)
  unfold Zre at this
  omega
 have hx2:atI (Zp.Instances (Zv.Design b)) (((Zp.Instances (Zv.Design b)).length:Int)-1)=some x:=Zkf (by omega) (by rw [←hx];congr 1;omega)
 have t1:Int.toNat (((Zp.Instances (Zv.Design b)).length:Int)-1)=(Zp.Instances (Zv.Design b)).length-1:=by omega
 have hset:((List.set (Zp.Instances (Zv.Design b)) ((Zp.Instances (Zv.Design b)).length-1) x,(Zv.Design b).snd):Zp)=Zv.Design b:=by rw [Zc0 hx]
 have hW1:Wq (((Zv.ZlA b).length:Int)-1)=(((Zv.ZlA b).length-1:Nat):Int):=by rw [XD (by omega) (by omega)];omega
 have hW2:Wq (((ZrC b).length:Int)-((Zp.Vk (Zv.Design b)).length:Int))=(Zpg (Zv.Design b):Int):=by rw [Zrv,XD (by omega) (by omega)];omega
 have hW3:Wq ((Zpg (Zv.Design b):Int)-2)=((Zpg (Zv.Design b)-2:Nat):Int):=by rw [XD (by omega) (by omega)];omega
 have hW4:Wq (((Zp.Instances (Zv.Design b)).length:Int)-1)=(((Zp.Instances (Zv.Design b)).length-1:Nat):Int):=by rw [XD (by omega) (by omega)];omega
 have hsk:QT (Zv.Design b) (((Zv.ZlA b).length-1:Nat):Int)=some [(k:Int)]:=by
  rw [ZcT _ _ hf,show (((Zv.ZlA b).length-1:Nat):Int)=((Zp.Zbh (Zv.Design b)).length:Int)-1 by omega,hs]
 have hx3:atI (Zp.Instances (Zv.Design b)) (((Zp.Instances (Zv.Design b)).length-1:Nat):Int)=some x:=by rw [VU];exact hx
 have hls:(List.set (ZrC b) k (Zpz b (Zpg (Zv.Design b)-2))).length=(places (Zv.Design b)).length:=by rw [List.length_set,Zrv]
 have hdr:List.take ((List.set (ZrC b) k (Zpz b (Zpg (Zv.Design b)-2))).length-Zpg (Zv.Design b)) (List.drop (Zpg (Zv.Design b)) (List.set (ZrC b) k (Zpz b (Zpg (Zv.Design b)-2))))=List.drop (Zpg (Zv.Design b)) (List.set (ZrC b) k (Zpz b (Zpg (Zv.Design b)-2))):=List.take_of_length_le (by rw [List.length_drop];exact Nat.le_refl _)
 have hci:(Zp.Instances (conn (Zv.Design b) p.1 p.2.1 m)).length=(Zp.Instances (Zv.Design b)).length:=ZpC
 have hcn:(Zp.Zbh (conn (Zv.Design b) p.1 p.2.1 m)).length=(Zp.Zbh (Zv.Design b)).length:=by rw [ZpO]
 have hl1:(List.take (Zpg (Zv.Design b)-2) (List.set (ZrC b) k (Zpz b (Zpg (Zv.Design b)-2)))).length=Zpg (Zv.Design b)-2:=by rw [List.length_take,hls];omega
 have hl3:(List.drop (Zpg (Zv.Design b)) (List.set (ZrC b) k (Zpz b (Zpg (Zv.Design b)-2)))).length=(Zp.Vk (Zv.Design b)).length:=by rw [List.length_drop,hls];omega
 have hins:Zpg (unD b p m)=Zpg (Zv.Design b)-2:=by
  have hn2:0<(Zp.Instances (conn (Zv.Design b) p.1 p.2.1 m)).length:=by rw [ZpC];exact hn
  have hx4:(Zp.Instances (conn (Zv.Design b) p.1 p.2.1 m))[(Zp.Instances (conn (Zv.Design b) p.1 p.2.1 m)).length-1]?=some ((Zp.Instances (conn (Zv.Design b) p.1 p.2.1 m))[(Zp.Instances (conn (Zv.Design b) p.1 p.2.1 m)).length-1]'(by omega)):=List.getElem?_eq_getElem _
  generalize (Zp.Instances (conn (Zv.Design b) p.1 p.2.1 m))[(Zp.Instances (conn (Zv.Design b) p.1 p.2.1 m)).length-1]'(by omega)=x' at hx4
  obtain ⟨y,hy,_,_,hyl,_⟩:=Zs5 hx4
  rw [ZpC,hx] at hy
  injection hy with hy
  have h5:=Zuf hn2 hx4 (by rw [hyl,←hy,hl2])
  have h6:=Zt3 hp m
  unfold unD
  omega
 have hup:(places (unD b p m)).length=(places (Zv.Design b)).length-2:=by
  have h5:=ZsZ (unD b p m)
  have h6:(Zp.Vk (unD b p m)).length=(Zp.Vk (Zv.Design b)).length:=ZuB
  omega
 have hA:=Zux (b:=(Zv.Library b,unD b p m,(Zv.ZlA b).take ((Zv.ZlA b).length-1),())) (nodes:=(ZrC b |>.set k (Zpz b (Zpg (Zv.Design b)-2))).take (Zpg (Zv.Design b)-2)++(ZrC b |>.set k (Zpz b (Zpg (Zv.Design b)-2))).drop (Zpg (Zv.Design b))) hR.ok.1.few (by
  show (List.take _ _++List.drop _ _).length=(places (unD b p m)).length
  rw [List.length_append,hl1,hl3,hup];omega) (by
  show (List.take _ _).length≤_
  rw [List.length_take];omega)
 have hnd:Zxu ((ZrC b |>.set k (Zpz b (Zpg (Zv.Design b)-2))).take (Zpg (Zv.Design b)-2)++(ZrC b |>.set k (Zpz b (Zpg (Zv.Design b)-2))).drop (Zpg (Zv.Design b)))=unN b k:=by
  funext j
  have:=ZzU (l:=(ZrC b).set k (Zpz b (Zpg (Zv.Design b)-2))) (m:=Zpg (Zv.Design b)-2) (by omega) j
  rw [show Zpg (Zv.Design b)-2+2=Zpg (Zv.Design b) by omega] at this
  rw [this]
  unfold unN
  congr 1
  funext i
  rw [Zx3 (by rw [Zrv];exact hk),ZwA]
  rfl
 rw [hnd] at hA
 have hD:((List.take ((Zp.Instances (Zv.Design b)).length-1) (Zp.Instances (conn (Zv.Design b) p.1 p.2.1 m)),List.take ((Zv.ZlA b).length-1) (Zp.Zbh (conn (Zv.Design b) p.1 p.2.1 m)),(conn (Zv.Design b) p.1 p.2.1 m).snd.snd):Zp)=unD b p m:=by
  unfold unD Zpx
  rw [ZpC,ZpO,hwn]
 unfold ZtA
 rw [ZtM h,Bq,hW1,hsk,Bq,show atI [(k:Int)] 0=some (k:Int) from rfl,Bq,hW2,hW3,VU,Zu6 (by omega),Bq,VU,Zu6 hk,Bq,hW4,hx3,Bq,
  show x.snd.snd.fst=Zz.Zbh x from rfl,hmx,Bq]
 simp only [Int.toNat_natCast,Int.toNat_zero,Nat.sub_zero,List.drop_zero]
 rw [hset,JF _ hf,Bq,VU,hp,Bq,Zuj hp,Bq,ZB (by omega),ZB (by rw [hls];omega),Zte _ (by omega),Bq,
  ZB (by omega),ZB (by rw [hls];omega),ZB (by omega),hdr,ZB (by rw [hl1,hl3];omega),ZB (by omega),ZB (by rw [hci];omega),ZB (by omega),ZB (by rw [hcn];omega),ZB (by omega),hD]
 refine Eq.trans (congrArg (fun o=>Option.bind o _) hA) ?_
 rfl
def Lens (b:Zv) (e:Zbk) (r:Zv):Prop:=(places (Zv.Design r)).length+(if Zbk.Kind e=3 then 2 else 0)=(places (Zv.Design b)).length+(if Zbk.Kind e=2 then 2 else 0)
theorem Zzi (d:Zp) (x:Zz) (s:List UInt8):(places (addInst d x s)).length=(places d).length+(Zz.Zbh x).length:=by
 rw [Zt4,List.length_append,List.length_append,Zp1]
 unfold places
 rw [List.length_append]
 omega
theorem ZAk {b:Zv} (h:ZqJ b) {e:Zbk} {k:Nat} {p:Pl} (hp:(places (Zv.Design b))[k]?=some p):(places (ZtC b e p)).length=(places (Zv.Design b)).length+2:=by
 rw [Zt6 hp,ZpN (Zt2 h hp),List.length_set,Zzi]
 rfl
theorem ZyE {b:Zv} {e:Zbk} {r:Zv} (h2:Zbk.Kind e≠2) (h3:Zbk.Kind e≠3) (h:(places (Zv.Design r)).length=(places (Zv.Design b)).length):Lens b e r:=by
 unfold Lens
 rw [if_neg h2,if_neg h3,h]
theorem Zzk {b:Zv} {e:Zbk} (h:ZtQ b e) (he:sm Zn2 e):∃ r,Zpy e b=some r∧Ztl b e=some r∧ZqJ r∧Zv.Library r=Zv.Library b∧Lens b e r:=by
 have hB:=h.blk
 have hf:=hB.ok.1.few
 have hwn:=hB.ok.2.1
 obtain ⟨b1,b2,b3⟩:=Zrd hB.sm
 unfold Zpy Ztl
 rw [Zp4 _ hB.sm,Bq,ZxG _ hB.sm,Bq,JF _ hf,Bq]
 by_cases k1:Zbk.Kind e=1
 ·obtain ⟨p,x,c,c2,hp,h0,hd,hx,hc,hc2,ha⟩:=h.poss.1 k1
  obtain ⟨_,hcr⟩:=h.range.1 (.inl k1)
  have hx2:(Zp.Instances (Zv.Design b))[p.1.toNat]?=some x:=by
   unfold atI at hx
   rw [if_pos h0] at hx
   exact hx
  obtain ⟨⟨hxc,_⟩,_,_⟩:=hB.ok.1.2.2.1 x (List.mem_of_getElem? hx2)
  have hc3:(ZaF.Cells (Zv.Library b))[(Zz.Cell x).toNat]?=some c:=by
   unfold atI at hc
   rw [if_pos hxc] at hc
   exact hc
  have hc4:(ZaF.Cells (Zv.Library b))[(Zbk.Cell e).toNat]?=some c2:=by
   unfold atI at hc2
   rw [if_pos hcr.1] at hc2
   exact hc2
  have hR:=ZxU hB h0 hx2 hc3 hc4 hcr (Zyi (ZqC (Zw1 b1) hc3) (ZqC (Zw1 b1) hc4) ha)
  rw [if_pos k1,if_pos k1,Zpj _ hf,Bq,hp.at,Bq]
  have e1:Zbl.instance p=p.1:=rfl
  have e2:Zk.instance p=p.1:=rfl
  simp only [e1,e2,hx,Bq]
  refine ⟨swapped b p.1 (Zbk.Cell e),?_,?_,hR,rfl,ZyE (by omega) (by omega) ?_⟩
  ·unfold swapped;rw [hx2]
  ·unfold swapped;rw [hx2]
  ·unfold swapped;rw [hx2];exact congrArg List.length (Zuy hx2 _)
 rw [if_neg k1,if_neg k1]
 by_cases k2:Zbk.Kind e=2
 ·obtain ⟨p,c,hp,hd,_⟩:=h.poss.2.1 k2
  have hs:=(ZvB he).1
  rw [if_pos k2,if_pos k2,Zvy h k2 hs hp hd,ZxO h k2 hs hp hd]
  exact ⟨_,rfl,rfl,Zt7 h k2 hs hp,rfl,by unfold Lens;rw [if_neg (by omega),if_pos k2];exact ZAk hB hp.2⟩
 rw [if_neg k2,if_neg k2]
 by_cases k3:Zbk.Kind e=3
 ·have hL:=h.poss.2.2.1 k3
  obtain ⟨k,p,m,v,hs,hp,hpi,hm,hv,hun⟩:=ZtJ hB hL
  have hR:=ZuU hB hL hs hp hpi hm
  rw [if_pos k3,if_pos k3,hun,Zw6 hB hL hs hp hpi hm]
  obtain ⟨hn,x,hx,hl2⟩:=hL.two
  have hn2:0<(Zp.Instances (conn (Zv.Design b) p.1 p.2.1 m)).length:=by rw [ZpC];exact hn
  have hx4:(Zp.Instances (conn (Zv.Design b) p.1 p.2.1 m))[(Zp.Instances (conn (Zv.Design b) p.1 p.2.1 m)).length-1]?=some ((Zp.Instances (conn (Zv.Design b) p.1 p.2.1 m))[(Zp.Instances (conn (Zv.Design b) p.1 p.2.1 m)).length-1]'(by omega)):=List.getElem?_eq_getElem _
  generalize (Zp.Instances (conn (Zv.Design b) p.1 p.2.1 m))[(Zp.Instances (conn (Zv.Design b) p.1 p.2.1 m)).length-1]'(by omega)=x' at hx4
  obtain ⟨y,hy,_,_,hyl,_⟩:=Zs5 hx4
  rw [ZpC,hx] at hy
  injection hy with hy
  have h5:=Zuf hn2 hx4 (by rw [hyl,←hy,hl2])
  have h6:=Zt3 hp m
  have hins:Zpg (unD b p m)=Zpg (Zv.Design b)-2:=by unfold unD;omega
  refine ⟨ZpS b k p m,by rw [hins,hv];rfl,rfl,hR,rfl,?_⟩
  have h7:=congrArg List.length (ZuE (s:=[]) hn2 hx4)
  rw [Zzi,hyl,←hy,hl2,ZpN hp,List.length_set] at h7
  unfold Lens
  rw [if_pos k3,if_neg (by omega)]
  exact h7.symm
 rw [if_neg k3,if_neg k3]
 by_cases k4:Zbk.Kind e=4
 ·obtain ⟨p,hp,hd,hne⟩:=h.poss.2.2.2.1 k4
  obtain ⟨_,hn,w,hw,hnode⟩:=h.range.2.1 k4
  have hk:=(List.getElem?_eq_some_iff.1 hp.2).1
  have hR:=ZyU hB hp.2 hd hn (v:=Zbk.Node e) (fun w' hw'=>by rw [hw] at hw';injection hw' with hw';rw [←hw'];exact hnode)
  rw [if_pos k4,if_pos k4,Zr9 hB,Bq,Zpj _ hf,Bq,hp.at,Bq,ZtM hB,Bq,Zkf hp.1 (Zu6 hk),Bq,Bq,Zuj hp.2,Bq,
   show (Zbl.instance p,Zbl.pin p,())=(p.1,p.2.1,()) from rfl,Zty hp.2,Bq]
  refine ⟨moved b (Zbk.Place e).toNat p (Zbk.Net e) (Zbk.Node e),?_,?_,hR,rfl,ZyE k2 k3 (by show (places (conn _ _ _ _)).length=_;rw [ZpN hp.2,List.length_set])⟩
  ·exact congrArg (fun o=>Option.bind o fun connect0=>some connect0) (ZwK hB hp.2 hd hn (v:=Zbk.Node e))
  ·exact congrArg (fun o=>Option.bind o fun l08Attach0=>some l08Attach0) (Zyr hB hp.2 (Zbk.Net e) (Zbk.Node e))
 ·have k5:Zbk.Kind e=5:=by have:=h.blank;unfold Blank at this;omega
  have hn:=h.range.2.2 k5
  obtain ⟨w,hw1,hw2,_⟩:=ZtN hB hn
  have hsw:=(ZvB he).2
  have hR:=Zyu hB hn (h.poss.2.2.2.2 k5) hsw
  rw [if_neg k4,if_neg k4,if_pos k5,if_pos k5,Zr2 _ hsw,Bq,Zvd _ hsw,Bq,hw2,Bq]
  exact ⟨Zy5 b (Zbk.Net e) (Zbk.ZoZ e),rfl,rfl,hR,rfl,ZyE k2 k3 rfl⟩
theorem ZzN {b:Zv} {e:Zbk} (h:ZtQ b e) (he:sm Zn2 e):∃ r,Zpy e b=some r∧Ztl b e=some r∧ZqJ r∧Zv.Library r=Zv.Library b:=by
 obtain ⟨r,h1,h2,h3,h4,_⟩:=Zzk h he
 exact ⟨r,h1,h2,h3,h4⟩
abbrev ZyF:Zv:=((([]:List QG),()),(([]:List Zz),([]:List (List UInt8)),([]:List Zah),()),([]:List QH),())
theorem Zze:sm ZjX ZyF:=by
 refine Zs0 ⟨⟨by simp,fun x hx=>by cases hx⟩,trivial⟩ (Ztr ⟨by simp,fun x hx=>by cases hx⟩ ⟨by simp,fun x hx=>by cases hx⟩ ⟨by simp,fun x hx=>by cases hx⟩) ⟨by simp,fun x hx=>by cases hx⟩
end Go.Proofs.YtnnbgbgapogckaaGreatDoor
