/-
  Plain laws: marks are held.
-/
import Derived.Test.YtdabmnfkcnkkbaaGreatDoorLA
import Derived.Test.YtdabmnfkcnkkbaaGreatDoorLB
import Derived.Test.YtdabmnfkcnkkbaaGreatDoorLC
import Derived.Test.YtdabmnfkcnkkbaaGreatDoorSxSort
namespace Go.Proofs.YtdabmnfkcnkkbaaGreatDoor
set_option linter.unusedVariables false
set_option linter.unusedSimpArgs false
open Go Go.Sx
theorem Zsv (l:List Int) (hl:l.length≤1048576):∃ l',YG l 1=some (1+(l.length:Int),l')∧Zcq l' 1=some (1+(l.length:Int)):=by
 obtain ⟨r,h1,h2,h3,h4⟩:∃ r,YG l 1=some r∧r.1=1+(l.length:Int)∧r.2.length=l.length∧∀ j,j<l.length→r.2[j]?=some (1+(j:Int)):=by
  unfold YG
  refine ZaM l.length (fun k v=>v.1=1+(k:Int)∧v.2.1=(k:Int)∧v.2.2.1.length=l.length∧∀ j,j<k→v.2.2.1[j]?=some (1+(j:Int))) _ ⟨rfl,rfl,rfl,fun j hj=>by omega⟩ ?_ ?_
  ·rintro k ⟨m,i,L,⟨⟩⟩ hk ⟨hm,hi,hL,hS⟩
   simp only at hm hi hL hS
   subst hm
   subst hi
   have hx:L[k]?=some L[k]:=List.getElem?_eq_getElem (by omega)
   left
   simp only [QJ,show (k:Int)<(L.length:Int) from by omega,if_true,Yd,hx,Option.bind_some]
   refine ⟨_,rfl,by simp only;rw [V4 (by omega) (by omega)];omega,by simp only;rw [Vm (by omega)],by simp [hL],fun j hj=>?_⟩
   simp only [Int.toNat_natCast]
   rw [List.getElem?_set]
   split
   ·rename_i e;rw [if_pos (by omega),e]
   ·exact hS j (by omega)
  ·rintro ⟨m,i,L,⟨⟩⟩ ⟨hm,hi,hL,hS⟩
   simp only at hm hi hL hS
   subst hm
   subst hi
   simp only [QJ,hL,Int.lt_irrefl,if_false]
   exact ⟨_,rfl,rfl,hL,hS⟩
 refine ⟨r.2,by rw [h1,←h2],?_⟩
 unfold Zcq
 refine Ql l.length (fun k v=>v.1=1+(k:Int)∧v.2.1=(k:Int)) _ ⟨rfl,rfl⟩ ?_ ?_
 ·rintro k ⟨m,i,⟨⟩⟩ hk ⟨hm,hi⟩
  simp only at hm hi
  subst hm
  subst hi
  left
  simp only [ZaA,show (k:Int)<(r.2.length:Int) from by omega,if_true,Yd,h4 k hk,Option.bind_some]
  exact ⟨_,rfl,by simp only;rw [V4 (by omega) (by omega)];omega,by simp only;rw [Vm (by omega)]⟩
 ·rintro ⟨m,i,⟨⟩⟩ ⟨hm,hi⟩
  simp only at hm hi
  subst hm
  subst hi
  simp only [ZaA,h3,Int.lt_irrefl,if_false]
theorem Zu7 (l:List Int) (hl:(l.length:Int)≤1048576):sm (.sl (.int .i64)) l:=⟨hl,fun x _=>trivial⟩
theorem Zq6 (a:ZU) (h:tot Xg a≤1048576):cnt Xg a≤100+20*1048576:=by
 have hc:=ZnQ Xg a
 have h1:wid Xg≤100:=by decide
 have h2:ZcK Xg≤20:=by decide
 have:=Nat.mul_le_mul_right (tot Xg a) h2
 omega
theorem Zsr (a:Z9) (h:tot Xr a≤1048576):cnt Xr a≤100+20*1048576:=by
 have hc:=ZnQ Xr a
 have h1:wid Xr≤100:=by decide
 have h2:ZcK Xr≤20:=by decide
 have:=Nat.mul_le_mul_right (tot Xr a) h2
 omega
theorem ZsY (a:ZY):tot Xr (ZY.Zc9 a)≤tot QZ a:=by
 show tot Xr a.2.2.2.2.2.2.1≤_
 simp only [ZbG,ZdJ,Zc7,ZbH]
 omega
end Go.Proofs.YtdabmnfkcnkkbaaGreatDoor
/-
  Plain laws: marks, exactly; marks are held. Printed by program (heldgen.py).
-/
namespace Go.Proofs.YtdabmnfkcnkkbaaGreatDoor
open Go Go.Sx
set_option maxHeartbeats 3200000
set_option linter.unusedVariables false
set_option linter.unusedSimpArgs false
end Go.Proofs.YtdabmnfkcnkkbaaGreatDoor
/-
  Plain laws: edits: what an edit may mention, and when it is possible.
-/
namespace Go.Proofs.YtdabmnfkcnkkbaaGreatDoor
set_option linter.unusedVariables false
set_option linter.unusedSimpArgs false
open Go Go.Sx
theorem Zoh {e:ZY} (h:sm QZ e):sm .str (ZY.Name e)∧sm Xr (ZY.Zc9 e):=⟨h.2.2.2.2.2.1,h.2.2.2.2.2.2.1⟩
def Zhk (w:Z9):Prop:=Z9.Parent w=[]∧Z9.Res w=[]∧Z9.Cap w=[]∧Z9.Ze4 w=[]
theorem Zrr (w:Z9) (hw:sm Xr w):(some (Decidable.decide (IntKind.i64.wrap (IntKind.i64.wrap (IntKind.i64.wrap ((↑(List.length (Z9.Parent w)):Int)+(↑(List.length (Z9.Res w)):Int))+(↑(List.length (Z9.Cap w)):Int))+(↑(List.length (Z9.Ze4 w)):Int))=(0:Int))):Option Bool)=some (tr (Zhk w)):=by
 obtain ⟨a1,a2,a3,a4⟩:=Zkb hw
 have s1:=Z8 a1
 have s2:=Z8 a2
 have s3:=Z8 a3
 have s4:=Z8 a4
 rw [V4 (n:=((Z9.Parent w).length:Int)+((Z9.Res w).length:Int)) (by omega) (by omega),V4 (n:=((Z9.Parent w).length:Int)+((Z9.Res w).length:Int)+((Z9.Cap w).length:Int)) (by omega) (by omega),V4 (by omega) (by omega)]
 refine Zch ?_
 rw [decide_eq_true_eq]
 unfold Zhk
 rw [←List.length_eq_zero_iff,←List.length_eq_zero_iff,←List.length_eq_zero_iff,←List.length_eq_zero_iff]
 omega
def Blank (e:ZY):Prop :=
 (ZY.Kind e=1∧ZY.Net e=0∧ZY.Node e=0∧ZY.Name e=[]∧Zhk (ZY.Zc9 e))∨
 (ZY.Kind e=2∧ZY.Net e=0∧ZY.Node e=0∧Zhk (ZY.Zc9 e))∨
 (ZY.Kind e=3∧ZY.Place e=0∧ZY.Cell e=0∧ZY.Net e=0∧ZY.Node e=0∧ZY.Name e=[]∧Zhk (ZY.Zc9 e))∨
 (ZY.Kind e=4∧ZY.Cell e=0∧ZY.Name e=[]∧Zhk (ZY.Zc9 e))∨
 (ZY.Kind e=5∧ZY.Place e=0∧ZY.Cell e=0∧ZY.Node e=0∧ZY.Name e=[])
theorem ZkF (e:ZY) (he:sm QZ e):Zd4 e=some (tr (Blank e)):=by
 have hn:=Zrr (ZY.Zc9 e) (Zoh he).2
 unfold Zd4
 rw [hn]
 by_cases k1:ZY.Kind e=1
 ·rw [if_pos k1]
  refine VA (Y2 fun _=>Y2 fun _=>Y2 fun _=>rfl) ?_
  unfold Blank;grind
 rw [if_neg k1]
 by_cases k2:ZY.Kind e=2
 ·rw [if_pos k2]
  refine VA (Y2 fun _=>Y2 fun _=>rfl) ?_
  unfold Blank;grind
 rw [if_neg k2]
 by_cases k3:ZY.Kind e=3
 ·rw [if_pos k3]
  refine VA (Y2 fun _=>Y2 fun _=>Y2 fun _=>Y2 fun _=>Y2 fun _=>rfl) ?_
  unfold Blank;grind
 rw [if_neg k3]
 by_cases k4:ZY.Kind e=4
 ·rw [if_pos k4]
  refine VA (Y2 fun _=>Y2 fun _=>rfl) ?_
  unfold Blank;grind
 rw [if_neg k4]
 by_cases k5:ZY.Kind e=5
 ·rw [if_pos k5]
  refine VA (Y2 fun _=>Y2 fun _=>Y2 fun _=>Zch decide_eq_true_iff) ?_
  unfold Blank;grind
 ·rw [if_neg k5]
  refine ZjQ ?_
  unfold Blank;grind
theorem ZaY (a b:List Int) (ha:a.length≤1048576):Xi a b=some (tr (a=b)):=by
 unfold Xi
 by_cases hl:(a.length:Int)=(b.length:Int)
 ·rw [if_pos hl,Jk (l:=a) (show Len a by unfold Len;omega) (fun k x=>b[k]?=some x) (bad:=false) (good:=true)
   (fun k x hx hk _=>by
    have hy:b[k]?=some b[k]:=List.getElem?_eq_getElem (by omega)
    simp only [Qz,show (k:Int)<(a.length:Int) from by omega,if_true,Yd,hx,hy,Option.bind_some,Option.some.injEq]
    constructor
    ·intro hh;rw [if_pos hh.symm]
    ·intro hh;rw [if_neg (fun q=>hh q.symm)])
   (fun _=>by simp only [Qz,Int.lt_irrefl,if_false]),ZlP]
  congr 1
  refine Vd ⟨fun h=>?_,fun h=>by subst h;exact fun k x hx=>hx⟩
  apply List.ext_getElem?
  intro k
  by_cases hk:k<a.length
  ·rw [h k a[k] (List.getElem?_eq_getElem hk),List.getElem?_eq_getElem hk]
  ·rw [List.getElem?_eq_none (by omega),List.getElem?_eq_none (by omega)]
 ·rw [if_neg hl,YL (fun h=>hl (by rw [h]))]
def Zoz (a b:Z9):Prop:=Z9.Parent a=Z9.Parent b∧Z9.Res a=Z9.Res b∧Z9.Cap a=Z9.Cap b∧Z9.Ze4 a=Z9.Ze4 b
theorem Zkk (a b:Z9) (ha:sm Xr a):ZdT a b=some (tr (Zoz a b)):=by
 obtain ⟨a1,a2,a3,a4⟩:=Zkb ha
 have s1:=Z8 a1
 have s2:=Z8 a2
 have s3:=Z8 a3
 have s4:=Z8 a4
 unfold ZdT
 exact Xz (ZaY _ _ s1) fun _=>Xz (ZaY _ _ s2) fun _=>Xz (ZaY _ _ s3) fun _=>Zcc (ZaY _ _ s4)
theorem JY (a b:ZY) (ha:sm QZ a):Zcn a b=some (tr (ZY.Kind a=ZY.Kind b∧ZY.Place a=ZY.Place b∧ZY.Cell a=ZY.Cell b∧ZY.Net a=ZY.Net b∧ZY.Node a=ZY.Node b∧ZY.Name a=ZY.Name b∧Zoz (ZY.Zc9 a) (ZY.Zc9 b))):=by
 unfold Zcn
 exact Y2 fun _=>Y2 fun _=>Y2 fun _=>Y2 fun _=>Y2 fun _=>Y2 fun _=>Zcc (Zkk _ _ (Zoh ha).2)
theorem ZsO (e:ZY) (he:sm QZ e):(YT (ZY.Kind e) 1 5=some (tr (1≤ZY.Kind e∧ZY.Kind e≤5)))∧∃ o,ZdQ e=some o∧Zcn e o=some (tr (ZY.Kind e<1∨5<ZY.Kind e∨Blank e))∨(¬(1≤ZY.Kind e∧ZY.Kind e≤5)):=by
 refine ⟨JZ _ _ _,?_⟩
 unfold ZdQ
 by_cases k1:ZY.Kind e=1
 ·rw [if_pos k1]
  refine ⟨_,.inl ⟨rfl,?_⟩⟩
  refine VA (JY e _ he) ?_
  rw [show Zoz (ZY.Zc9 e) (ZY.Zc9 (ZY.Kind e,ZY.Place e,ZY.Cell e,(0:Int),(0:Int),([]:List UInt8),(([]:List Int),([]:List Int),([]:List Int),([]:List Int),()),()))↔Zhk (ZY.Zc9 e) from Iff.rfl]
  unfold Blank
  simp only [k1]
  constructor
  ·rintro ⟨_,_,_,a,b,c,d⟩;exact .inr (.inr (.inl ⟨trivial,a,b,c,d⟩))
  ·intro h;grind
 rw [if_neg k1]
 by_cases k2:ZY.Kind e=2
 ·rw [if_pos k2]
  refine ⟨_,.inl ⟨rfl,?_⟩⟩
  refine VA (JY e _ he) ?_
  rw [show Zoz (ZY.Zc9 e) (ZY.Zc9 (ZY.Kind e,ZY.Place e,ZY.Cell e,(0:Int),(0:Int),ZY.Name e,(([]:List Int),([]:List Int),([]:List Int),([]:List Int),()),()))↔Zhk (ZY.Zc9 e) from Iff.rfl]
  unfold Blank
  simp only [k2]
  constructor
  ·rintro ⟨_,_,_,a,b,c,d⟩;exact .inr (.inr (.inr (.inl ⟨trivial,a,b,d⟩)))
  ·intro h;grind
 rw [if_neg k2]
 by_cases k4:ZY.Kind e=4
 ·rw [if_pos k4]
  refine ⟨_,.inl ⟨rfl,?_⟩⟩
  refine VA (JY e _ he) ?_
  rw [show Zoz (ZY.Zc9 e) (ZY.Zc9 (ZY.Kind e,ZY.Place e,(0:Int),ZY.Net e,ZY.Node e,([]:List UInt8),(([]:List Int),([]:List Int),([]:List Int),([]:List Int),()),()))↔Zhk (ZY.Zc9 e) from Iff.rfl]
  unfold Blank
  simp only [k4]
  constructor
  ·rintro ⟨_,_,a,_,_,c,d⟩;exact .inr (.inr (.inr (.inr (.inr (.inl ⟨trivial,a,c,d⟩)))))
  ·intro h;grind
 rw [if_neg k4]
 by_cases k5:ZY.Kind e=5
 ·rw [if_pos k5]
  refine ⟨_,.inl ⟨rfl,?_⟩⟩
  refine VA (JY e _ he) ?_
  rw [show Zoz (ZY.Zc9 e) (ZY.Zc9 (ZY.Kind e,(0:Int),(0:Int),ZY.Net e,(0:Int),([]:List UInt8),e.snd.snd.snd.snd.snd.snd))↔True from ⟨fun _=>trivial,fun _=>⟨rfl,rfl,rfl,rfl⟩⟩]
  unfold Blank
  simp only [k5]
  constructor
  ·rintro ⟨_,a,b,_,c,d,_⟩;exact .inr (.inr (.inr (.inr (.inr (.inr ⟨trivial,a,b,c,d⟩)))))
  ·intro h;grind
 rw [if_neg k5]
 by_cases k3:ZY.Kind e=3
 ·refine ⟨_,.inl ⟨rfl,?_⟩⟩
  refine VA (JY e _ he) ?_
  rw [show Zoz (ZY.Zc9 e) (ZY.Zc9 (ZY.Kind e,(0:Int),(0:Int),(0:Int),(0:Int),([]:List UInt8),(([]:List Int),([]:List Int),([]:List Int),([]:List Int),()),()))↔Zhk (ZY.Zc9 e) from Iff.rfl]
  unfold Blank
  simp only [k3]
  constructor
  ·rintro ⟨_,a,b,c,d,f,g⟩;exact .inr (.inr (.inr (.inr (.inl ⟨trivial,a,b,c,d,f,g⟩))))
  ·intro h;grind
 ·exact ⟨e,.inr (by omega)⟩
end Go.Proofs.YtdabmnfkcnkkbaaGreatDoor
/-
  Plain laws: edits: range, possibility, code.
-/
namespace Go.Proofs.YtdabmnfkcnkkbaaGreatDoor
set_option linter.unusedVariables false
set_option linter.unusedSimpArgs false
open Go Go.Sx
def Zaq (b:ZU) (e:ZY):Prop :=
 ((ZY.Kind e=1∨ZY.Kind e=2)→(0≤ZY.Place e∧ZY.Place e≤((places (ZU.Design b)).length:Int)-1)∧(0≤ZY.Cell e∧ZY.Cell e≤((Z7.Cells (ZU.Library b)).length:Int)-1))∧
 (ZY.Kind e=4→(0≤ZY.Place e∧ZY.Place e≤((places (ZU.Design b)).length:Int)-1)∧Zab (ZU.Design b) (ZY.Net e)∧∃ w,(ZU.Ye b)[(ZY.Net e).toNat]?=some w∧(0≤ZY.Node e∧ZY.Node e≤((Z9.Parent w).length:Int)-1))∧
 (ZY.Kind e=5→Zab (ZU.Design b) (ZY.Net e))
theorem ZjW {b:ZU} (h:Zap b) {n:Int} (hn:Zab (ZU.Design b) n):∃ w,(ZU.Ye b)[n.toNat]?=some w∧atI (ZU.Ye b) n=some w∧Zar w ((sinks (ZU.Design b) n).length:Int):=by
 have hwn:=h.ok.2.1
 have hlt:n.toNat<(ZU.Ye b).length:=by have:=hn.1;have:=hn.2;omega
 have hw:=List.getElem?_eq_getElem hlt
 refine ⟨_,hw,Qd hn.1 hw,?_⟩
 have this:Zar _ ((sinks (ZU.Design b) ((n.toNat:Nat):Int)).length:Int):=h.ok.2.2 n.toNat _ hw
 rwa [show ((n.toNat:Nat):Int)=n by have:=hn.1;omega] at this
theorem ZkW {b:ZU} (h:Zap b):(Z7.Cells (ZU.Library b)).length≤1048576:=Z8 (Zmw (Zah h.sm).1)
theorem Zrs {b:ZU} (h:Zap b) (e:ZY) {w:Z9} (hw:(ZU.Ye b)[(ZY.Net e).toNat]?=some w):IntKind.i64.wrap (((Z9.Parent w).length:Int)-1)=((Z9.Parent w).length:Int)-1:=by
 have:=h.ok.2.2 _ _ hw
 have h1:=this.1
 rw [V4 (by omega) (by omega)]
theorem ZkG {b:ZU} (h:Zap b) (e:ZY) (he:sm QZ e):Zd5 b e=some (tr (Zaq b e)):=by
 have hD:=h.ok.1
 have hf:=hD.few
 have hpl:=Qn hf
 have hc:=ZkW h
 have hwn:=h.ok.2.1
 have h30:=hD.2.1.2.1
 have e1:IntKind.i64.wrap (((places (ZU.Design b)).length:Int)-1)=((places (ZU.Design b)).length:Int)-1:=V4 (by omega) (by omega)
 have e2:IntKind.i64.wrap (((Z7.Cells (ZU.Library b)).length:Int)-1)=((Z7.Cells (ZU.Library b)).length:Int)-1:=V4 (by omega) (by omega)
 have e3:IntKind.i64.wrap (((ZU.Ye b).length:Int)-1)=((ZT.Yh (ZU.Design b)).length:Int)-1:=by rw [V4 (by omega) (by omega)];omega
 have net:(Yv (ZY.Net e) 0 (((ZT.Yh (ZU.Design b)).length:Int)-1))=some (tr (Zab (ZU.Design b) (ZY.Net e))):=JJ _ _ _
 unfold Zd5
 rw [XJ _ hf,Option.bind_some,e1,e2,e3]
 have pc:((Yv (ZY.Place e) 0 (((places (ZU.Design b)).length:Int)-1)).bind fun x=>if x=true then (Yv (ZY.Cell e) 0 (((Z7.Cells (ZU.Library b)).length:Int)-1)).bind fun y=>some y else some false) =
   some (tr ((0≤ZY.Place e∧ZY.Place e≤((places (ZU.Design b)).length:Int)-1)∧(0≤ZY.Cell e∧ZY.Cell e≤((Z7.Cells (ZU.Library b)).length:Int)-1))) :=
  Xz (JJ _ _ _) fun _=>Zcc (JJ _ _ _)
 have mv:((Yv (ZY.Place e) 0 (((places (ZU.Design b)).length:Int)-1)).bind fun x=>if x=true then (Yv (ZY.Net e) 0 (((ZT.Yh (ZU.Design b)).length:Int)-1)).bind fun y=>if y=true then
    (atI (ZU.Ye b) (ZY.Net e)).bind fun w=>(Yv (ZY.Node e) 0 (IntKind.i64.wrap (((Z9.Parent w).length:Int)-1))).bind fun z=>some z else some false else some false) =
   some (tr ((0≤ZY.Place e∧ZY.Place e≤((places (ZU.Design b)).length:Int)-1)∧Zab (ZU.Design b) (ZY.Net e)∧∃ w,(ZU.Ye b)[(ZY.Net e).toNat]?=some w∧(0≤ZY.Node e∧ZY.Node e≤((Z9.Parent w).length:Int)-1))):=by
  refine Xz (JJ _ _ _) fun _=>Xz net fun hn=>?_
  obtain ⟨w,hw,ha,_⟩:=ZjW h hn
  rw [ha,Option.bind_some,Zrs h e hw]
  refine VA (Zcc (JJ _ _ _)) ⟨fun q=>⟨w,hw,q⟩,fun ⟨w',hw',q⟩=>?_⟩
  rw [hw] at hw'
  injection hw' with hw'
  subst hw';exact q
 by_cases k1:ZY.Kind e=1
 ·rw [if_pos k1,if_pos k1]
  refine VA pc ?_
  unfold Zaq;grind
 rw [if_neg k1]
 by_cases k2:ZY.Kind e=2
 ·rw [if_pos k2]
  refine VA pc ?_
  unfold Zaq;grind
 rw [if_neg k2]
 by_cases k4:ZY.Kind e=4
 ·rw [if_pos k4]
  refine VA mv ?_
  unfold Zaq;grind
 rw [if_neg k4]
 by_cases k5:ZY.Kind e=5
 ·rw [if_pos k5]
  refine VA (Zcc net) ?_
  unfold Zaq;grind
 ·rw [if_neg k5]
  refine (Zch (P:=Zaq b e) ⟨fun _=>?_,fun _=>rfl⟩)
  unfold Zaq;grind
theorem Zjk {b:ZU} (h:Zap b) (e:ZY) (he:sm QZ e):JH e b=some (tr (Blank e∧Zaq b e)):=by
 have hD:=h.ok.1
 have hf:=hD.few
 have hpl:=Qn hf
 have hc:=ZkW h
 have hsd:=(Zah h.sm).2.1
 have e1:IntKind.i64.wrap (((places (ZU.Design b)).length:Int)-1)=((places (ZU.Design b)).length:Int)-1:=V4 (by omega) (by omega)
 have e2:IntKind.i64.wrap (((Z7.Cells (ZU.Library b)).length:Int)-1)=((Z7.Cells (ZU.Library b)).length:Int)-1:=V4 (by omega) (by omega)
 obtain ⟨hw,o,ho⟩:=ZsO e he
 unfold JH
 rw [hw,Option.bind_some]
 by_cases hk:1≤ZY.Kind e∧ZY.Kind e≤5
 ·rw [if_pos (Xh hk)]
  rcases ho with ⟨ho1,ho2⟩ | ho
  ·rw [ho1,Option.bind_some,ho2,Option.bind_some]
   by_cases hB:Blank e
   ·rw [if_pos (Xh (.inr (.inr hB))),YO _ hf,Option.bind_some,show Zae (places (ZU.Design b))=some ((places (ZU.Design b)).length:Int) from rfl,Option.bind_some,e1,JZ,Option.bind_some,
     show X6 (Z7.Cells (ZU.Library b))=some ((Z7.Cells (ZU.Library b)).length:Int) from rfl]
    simp only [Option.bind_some,e2]
    have net:=Zba (ZU.Design b) (ZY.Net e) hsd
    have pc:(if tr (0≤ZY.Place e∧ZY.Place e≤((places (ZU.Design b)).length:Int)-1)=true then (YT (ZY.Cell e) 0 (((Z7.Cells (ZU.Library b)).length:Int)-1)).bind fun y=>some y else some false) =
      some (tr ((0≤ZY.Place e∧ZY.Place e≤((places (ZU.Design b)).length:Int)-1)∧(0≤ZY.Cell e∧ZY.Cell e≤((Z7.Cells (ZU.Library b)).length:Int)-1))) :=
     ZuH (Zcc (JZ _ _ _))
    by_cases k1:ZY.Kind e=1
    ·rw [if_pos k1,if_pos k1]
     refine VA pc ?_
     unfold Zaq;grind
    rw [if_neg k1]
    by_cases k2:ZY.Kind e=2
    ·rw [if_pos k2]
     refine VA pc ?_
     unfold Zaq;grind
    rw [if_neg k2]
    by_cases k4:ZY.Kind e=4
    ·rw [if_pos k4]
     have mv:(if tr (0≤ZY.Place e∧ZY.Place e≤((places (ZU.Design b)).length:Int)-1)=true then (Xd (ZU.Design b) (ZY.Net e)).bind fun y=>if y=true then
        (atI (ZU.Ye b) (ZY.Net e)).bind fun w=>(Xm (Z9.Parent w)).bind fun n=>(YT (ZY.Node e) 0 (IntKind.i64.wrap (n-1))).bind fun z=>some z else some false else some false) =
       some (tr ((0≤ZY.Place e∧ZY.Place e≤((places (ZU.Design b)).length:Int)-1)∧Zab (ZU.Design b) (ZY.Net e)∧∃ w,(ZU.Ye b)[(ZY.Net e).toNat]?=some w∧(0≤ZY.Node e∧ZY.Node e≤((Z9.Parent w).length:Int)-1))):=by
      by_cases hp:0≤ZY.Place e∧ZY.Place e≤((places (ZU.Design b)).length:Int)-1
      ·rw [if_pos (Xh hp)]
       refine VA (Xz net fun hn=>?_) (P:=Zab (ZU.Design b) (ZY.Net e)∧∃ w,(ZU.Ye b)[(ZY.Net e).toNat]?=some w∧(0≤ZY.Node e∧ZY.Node e≤((Z9.Parent w).length:Int)-1)) ⟨fun q=>⟨hp,q⟩,fun q=>q.2⟩
       obtain ⟨w,hw,ha,_⟩:=ZjW h hn
       rw [ha,Option.bind_some,V9,Option.bind_some,Zrs h e hw]
       refine VA (Zcc (JZ _ _ _)) ⟨fun q=>⟨w,hw,q⟩,fun ⟨w',hw',q⟩=>?_⟩
       rw [hw] at hw'
       injection hw' with hw'
       subst hw';exact q
      ·rw [if_neg (fun q=>hp ((QA _).1 q)),YL (fun q=>hp q.1)]
     refine VA mv ?_
     unfold Zaq;grind
    rw [if_neg k4]
    by_cases k5:ZY.Kind e=5
    ·rw [if_pos k5]
     refine VA (Zcc net) ?_
     unfold Zaq;grind
    ·rw [if_neg k5]
     refine (Zch (P:=Blank e∧Zaq b e) ⟨fun _=>⟨hB,?_⟩,fun _=>rfl⟩)
     unfold Zaq;grind
   ·rw [if_neg (fun q=>by rcases (QA _).1 q with q | q | q<;>first | omega | exact hB q),YL (fun q=>hB q.1)]
  ·exact absurd hk ho
 ·rw [if_neg (fun q=>hk ((QA _).1 q)),YL (fun q=>?_)]
  have:=q.1
  unfold Blank at this
  omega
theorem Zsa (a b:Z4) (ha:sm XZ a):ZdS a b=VW a b∧∃ r,VW a b=some r:=by
 have s1:(Z4.YV a).length≤1048576:=by have:=(ZrM ha).pins.1;omega
 unfold ZdS VW Yy
 by_cases k:Z4.Kind a=Z4.Kind b
 ·rw [if_pos k,if_pos k]
  by_cases hl:((Z4.YV a).length:Int)=((Z4.YV b).length:Int)
  ·rw [if_pos hl,if_pos hl]
   rw [Jk (l:=Z4.YV a) (show Len _ by unfold Len;omega) (fun k x=>∀ y,(Z4.YV b)[k]?=some y→(YX.Clock x == YX.Clock y)=true) (bad:=false) (good:=true)
    (step:=fun v=>Yg (Z4.YV a) (Z4.YV b) v.1)
    (fun k x hx hk _=>by
     have hy:(Z4.YV b)[k]?=some (Z4.YV b)[k]:=List.getElem?_eq_getElem (by omega)
     simp only [Yg,ZdE,show (k:Int)<((Z4.YV a).length:Int) from by omega,if_true,Yd,hx,hy,Option.bind_some,Option.some.injEq,forall_eq']
     constructor
     ·intro hh;rw [if_pos hh]
     ·intro hh;rw [if_neg hh])
    (fun _=>by simp only [Yg,Int.lt_irrefl,if_false]),
    Jk (l:=Z4.YV a) (show Len _ by unfold Len;omega) (fun k x=>∀ y,(Z4.YV b)[k]?=some y→(YX.Clock x == YX.Clock y)=true) (bad:=false) (good:=true)
    (step:=fun v=>JR a b v.1)
    (fun k x hx hk _=>by
     have hy:(Z4.YV b)[k]?=some (Z4.YV b)[k]:=List.getElem?_eq_getElem (by omega)
     simp only [JR,show (k:Int)<((Z4.YV a).length:Int) from by omega,if_true,Yd,hx,hy,Option.bind_some,Option.some.injEq,forall_eq']
     constructor
     ·intro hh;rw [if_pos hh]
     ·intro hh;rw [if_neg hh])
    (fun _=>by simp only [JR,Int.lt_irrefl,if_false])]
   exact ⟨rfl,_,rfl⟩
  ·rw [if_neg hl,if_neg hl]
   exact ⟨rfl,_,rfl⟩
 ·rw [if_neg k,if_neg k]
  exact ⟨rfl,_,rfl⟩
theorem Zj3 (d:ZT) (s:List UInt8) (hd:sm YQ d):Zaj d s=some (Za9 (fun x=>decide (ZW.Name x=s)) (ZT.Instances d))∧Zan d s=some (Za9 (fun x=>decide (ZW.Name x=s)) (ZT.Instances d)):=by
 have hl:=XK (ZaZ hd).1
 constructor
 ·unfold Zaj
  rw [XI hl (fun x=>decide (ZW.Name x=s)) (fun x _=>rfl),Option.bind_some]
 ·unfold Zan
  refine VG hl (out:=fun i=>i) (fun k x hx=>?_) ?_
  ·have hk:=(List.getElem?_eq_some_iff.1 hx).1
   simp only [Jr,show (k:Int)<((ZT.Instances d).length:Int) from by omega,if_true,Yd,hx,Option.bind_some,decide_eq_true_eq]
   split<;>rfl
  ·simp only [Jr,Int.lt_irrefl,if_false]
theorem ZlD (d:ZT) (s:List UInt8) (hd:sm YQ d):V6 d s=some (Za9 (fun x=>decide (s=x)) (ZT.Yh d))∧Zd1 d s=some (Za9 (fun x=>decide (s=x)) (ZT.Yh d)):=by
 have hl:=XK (ZaZ hd).2.2
 constructor
 ·unfold V6
  rw [Zdx hl,Option.bind_some]
 ·unfold Zd1 Zf2
  rw [VG hl (p:=fun x=>decide (s=x)) (out:=fun i=>i) (fun k x hx=>by
   have hk:=(List.getElem?_eq_some_iff.1 hx).1
   simp only [ZbT,show (k:Int)<((ZT.Yh d).length:Int) from by omega,if_true,Yd,hx,Option.bind_some,decide_eq_true_eq]
   by_cases hq:s=x
   ·rw [if_pos hq,if_pos hq.symm]
   ·rw [if_neg hq,if_neg (fun q=>hq q.symm)]) (by simp only [ZbT,Int.lt_irrefl,if_false]),Option.bind_some]
end Go.Proofs.YtdabmnfkcnkkbaaGreatDoor
/-
  Plain laws: edits: what is possible, the code of an edit, places after one.
-/
namespace Go.Proofs.YtdabmnfkcnkkbaaGreatDoor
set_option linter.unusedVariables false
set_option linter.unusedSimpArgs false
open Go Go.Sx
def Zig (b:ZU):Prop:=∃ (x:ZW) (c:Z4) (w:Z9) (m:Int),
 0<(ZT.Instances (ZU.Design b)).length∧(ZT.Instances (ZU.Design b))[(ZT.Instances (ZU.Design b)).length-1]?=some x∧
 (Z7.Cells (ZU.Library b))[(ZW.Cell x).toNat]?=some c∧Z4.Kind c=1∧(Z4.YV c).length=2∧
 (ZW.Yh x).length=2∧atI (ZW.Yh x) 0=some m∧atI (ZW.Yh x) 1=some (((ZT.Yh (ZU.Design b)).length:Int)-1)∧m≠((ZT.Yh (ZU.Design b)).length:Int)-1∧
 atI (ZT.Yh (ZU.Design b)) (((ZT.Yh (ZU.Design b)).length:Int)-1)=some (ZW.Name x)∧
 atI (ZU.Ye b) (((ZT.Yh (ZU.Design b)).length:Int)-1)=some w∧(Z9.Ze4 w).length=1∧(sinks (ZU.Design b) (((ZT.Yh (ZU.Design b)).length:Int)-1)).length=1∧(Z9.Parent w).length=1∧atI (Z9.Cap w) 0=some 0
theorem Zse {b:ZU} (h:Zap b):∃ r,Vv b=some r∧Ze3 b=some r∧
  (r=true→Zig b):=by
 have hD:=h.ok.1
 have hf:=hD.few
 have h14:=hf.insts
 have h30:=hD.2.1.2.1
 have hwn:=h.ok.2.1
 unfold Vv Ze3
 by_cases hn:((ZT.Instances (ZU.Design b)).length:Int)=0
 ·rw [if_pos hn,hn,V4 (by omega) (by omega),if_pos (by omega)]
  exact ⟨false,rfl,rfl,fun h=>by cases h⟩
 rw [if_neg hn,V4 (n:=((ZT.Instances (ZU.Design b)).length:Int)-1) (by omega) (by omega),if_neg (by omega)]
 have hlt:(ZT.Instances (ZU.Design b)).length-1<(ZT.Instances (ZU.Design b)).length:=by omega
 have hx:=List.getElem?_eq_getElem hlt
 generalize (ZT.Instances (ZU.Design b))[(ZT.Instances (ZU.Design b)).length-1]=x at hx
 have hx2:atI (ZT.Instances (ZU.Design b)) (((ZT.Instances (ZU.Design b)).length:Int)-1)=some x:=Qd (by omega) (by rw [←hx];congr 1;omega)
 obtain ⟨⟨c0,c1⟩,⟨c,hc,hnp⟩,hnet⟩:=hD.2.2.1 x (List.mem_of_getElem? hx)
 have hc2:atI (Z7.Cells (ZU.Library b)) (ZW.Cell x)=some c:=Qd c0 hc
 rw [hx2]
 simp only [Option.bind_some,hc2,show Xe (ZT.Yh (ZU.Design b))=some ((ZT.Yh (ZU.Design b)).length:Int) from rfl]
 rw [show Zbs c=Q9 c from rfl]
 have hbuf:Q9 c=some (tr (Z4.Kind c=1∧(Z4.YV c).length=2)):=by
  unfold Q9
  refine VA (Y2 fun _=>Zch decide_eq_true_iff) ?_
  omega
 rw [hbuf,Option.bind_some,Option.bind_some]
 by_cases hb:Z4.Kind c=1∧(Z4.YV c).length=2
 ·rw [if_pos (Xh hb),if_pos (Xh hb)]
  have hl2:(ZW.Yh x).length=2:=by rw [hnp];exact hb.2
  have n0:atI (ZW.Yh x) 0=some ((ZW.Yh x)[0]'(by omega)):=List.getElem?_eq_getElem (by omega)
  have n1:atI (ZW.Yh x) 1=some ((ZW.Yh x)[1]'(by omega)):=List.getElem?_eq_getElem (by omega)
  have hn1:=hnet ((ZW.Yh x)[1]'(by omega)) (List.getElem_mem _)
  have hpos:1≤(ZT.Yh (ZU.Design b)).length:=by have:=hn1.1;have:=hn1.2;omega
  generalize (ZW.Yh x)[1]'(by omega)=m1 at n1 hn1
  generalize (ZW.Yh x)[0]'(by omega)=m0 at n0
  have eL:IntKind.i64.wrap (((ZT.Yh (ZU.Design b)).length:Int)-1)=((ZT.Yh (ZU.Design b)).length:Int)-1:=V4 (by omega) (by omega)
  have eW:IntKind.i64.wrap (((ZU.Ye b).length:Int)-1)=((ZT.Yh (ZU.Design b)).length:Int)-1:=by rw [V4 (by omega) (by omega)];omega
  have hL:Zab (ZU.Design b) (((ZT.Yh (ZU.Design b)).length:Int)-1):=⟨by omega,by omega⟩
  obtain ⟨w,hw1,hw2,hw3⟩:=ZjW h hL
  have nL:atI (ZT.Yh (ZU.Design b)) (((ZT.Yh (ZU.Design b)).length:Int)-1)=some ((ZT.Yh (ZU.Design b))[(ZT.Yh (ZU.Design b)).length-1]'(by omega)):=Qd (by omega) (by
   rw [List.getElem?_eq_getElem (by omega)]
   congr 2
   omega)
  generalize (ZT.Yh (ZU.Design b))[(ZT.Yh (ZU.Design b)).length-1]'(by omega)=nm at nL
  have hcap:atI (Z9.Cap w) 0=some ((Z9.Cap w)[0]'(by have:=hw3.1;have:=hw3.2.2.1;omega)):=List.getElem?_eq_getElem (by have:=hw3.1;have:=hw3.2.2.1;omega)
  generalize (Z9.Cap w)[0]'(by have:=hw3.1;have:=hw3.2.2.1;omega)=cp at hcap
  have hsk:=hw3.2.2.2.1
  simp only [eL,eW,n0,n1,nL,hw2,Option.bind_some,VI _ _ hf,ZgN,hcap]
  rw [←hsk]
  by_cases q1:m1=((ZT.Yh (ZU.Design b)).length:Int)-1
  ·rw [if_pos q1,if_pos q1]
   by_cases q2:m0=((ZT.Yh (ZU.Design b)).length:Int)-1
   ·rw [if_pos q2]
    by_cases q3:nm=ZW.Name x
    ·rw [if_pos q3]
     simp only [if_pos q2]
     exact ⟨_,rfl,rfl,fun q=>by cases q⟩
    ·rw [if_neg q3]
     exact ⟨_,rfl,rfl,fun q=>by cases q⟩
   ·rw [if_neg q2]
    by_cases q3:nm=ZW.Name x
    ·rw [if_pos q3,if_pos q3]
     simp only [if_neg q2]
     by_cases q4:((Z9.Ze4 w).length:Int)=1
     ·rw [if_pos q4,if_pos q4]
      by_cases q5:((Z9.Parent w).length:Int)=1
      ·simp only [if_pos q5]
       refine ⟨_,rfl,rfl,fun q=>?_⟩
       have q6:=of_decide_eq_true q
       subst q1 q6
       exact ⟨x,c,w,m0,by omega,hx,hc,hb.1,hb.2,hl2,n0,n1,q2,by rw [nL,q3],hw2,by omega,by omega,by omega,hcap⟩
      ·simp only [if_neg q5]
       exact ⟨_,rfl,rfl,fun q=>by cases q⟩
     ·rw [if_neg q4,if_neg q4]
      exact ⟨_,rfl,rfl,fun q=>by cases q⟩
    ·rw [if_neg q3,if_neg q3]
     exact ⟨_,rfl,rfl,fun q=>by cases q⟩
  ·rw [if_neg q1,if_neg q1]
   exact ⟨_,rfl,rfl,fun q=>by cases q⟩
 ·rw [if_neg (fun q=>hb ((QA _).1 q)),if_neg (fun q=>hb ((QA _).1 q))]
  exact ⟨false,rfl,rfl,fun h=>by cases h⟩
theorem ZoE {b:ZU} (h:Zap b) {i:Int} (h0:0≤i) (h1:i≤((Z7.Cells (ZU.Library b)).length:Int)-1):∃ c,atI (Z7.Cells (ZU.Library b)) i=some c∧sm XZ c:=by
 have hlt:i.toNat<(Z7.Cells (ZU.Library b)).length:=by omega
 have hc:=List.getElem?_eq_getElem hlt
 exact ⟨_,Qd h0 hc,Jp (Zmw (Zah h.sm).1) hc⟩
theorem Znt {b:ZU} (h:Zap b) {i:Int} (h0:0≤i) (h1:i≤((places (ZU.Design b)).length:Int)-1):∃ p,atI (places (ZU.Design b)) i=some p∧p∈places (ZU.Design b):=by
 have hlt:i.toNat<(places (ZU.Design b)).length:=by omega
 have hc:=List.getElem?_eq_getElem hlt
 exact ⟨_,Qd h0 hc,List.getElem_mem _⟩
theorem ZmS {d:ZT} {p:Pl} (hp:p∈places d) (h0:0≤p.1):∃ x,(ZT.Instances d)[p.1.toNat]?=some x∧x∈ZT.Instances d:=by
 unfold places at hp
 rcases List.mem_append.1 hp with hp | hp
 ·obtain ⟨i,z,hi,hz⟩:=ZgD.1 hp
  unfold Qi at hz
  obtain ⟨j,n,hj,hn⟩:=ZgD.1 hz
  simp only [List.mem_singleton] at hn
  subst hn
  refine ⟨z,?_,List.mem_of_getElem? hi⟩
  show (ZT.Instances d)[(((0+i:Nat):Int)).toNat]?=some z
  rw [show (((0+i:Nat):Int)).toNat=i by omega]
  exact hi
 ·obtain ⟨j,q,hj,hq⟩:=ZgD.1 hp
  simp only [Zdw,List.mem_singleton] at hq
  subst hq
  have h0:(0:Int)≤-1:=h0
  omega
theorem Zig.two {b:ZU} (h:Zig b):0<(ZT.Instances (ZU.Design b)).length∧∃ x,(ZT.Instances (ZU.Design b))[(ZT.Instances (ZU.Design b)).length-1]?=some x∧(ZW.Yh x).length=2:=by
 obtain ⟨x,c,w,m,h1,h2,_,_,_,h3,_⟩:=h
 exact ⟨h1,x,h2,h3⟩
def Zec (b:ZU) (e:ZY) (p:Pl):Prop:=0≤ZY.Place e∧(places (ZU.Design b))[(ZY.Place e).toNat]?=some p
theorem Zm5 {b:ZU} {e:ZY} {p:Pl} (h0:0≤ZY.Place e) (hp:atI (places (ZU.Design b)) (ZY.Place e)=some p):Zec b e p:=by
 refine ⟨h0,?_⟩
 rw [show ZY.Place e=(((ZY.Place e).toNat:Nat):Int) by omega,Yd] at hp
 exact hp
theorem Zec.mem {b:ZU} {e:ZY} {p:Pl} (h:Zec b e p):p∈places (ZU.Design b):=List.mem_of_getElem? h.2
theorem Zec.at {b:ZU} {e:ZY} {p:Pl} (h:Zec b e p):atI (places (ZU.Design b)) (ZY.Place e)=some p:=Qd h.1 h.2
def Zs7 (b:ZU) (e:ZY):Prop :=
 (ZY.Kind e=1→∃ (p:Pl) (x:ZW) (c c2:Z4),Zec b e p∧0≤p.1∧p.2.2.2.1=true∧atI (ZT.Instances (ZU.Design b)) p.1=some x∧atI (Z7.Cells (ZU.Library b)) (ZW.Cell x)=some c∧atI (Z7.Cells (ZU.Library b)) (ZY.Cell e)=some c2∧VW c c2=some true)∧
 (ZY.Kind e=2→∃ (p:Pl) (c:Z4),Zec b e p∧p.2.2.2.1=false∧atI (Z7.Cells (ZU.Library b)) (ZY.Cell e)=some c∧Z4.Kind c=1∧(Z4.YV c).length=2∧JA (ZY.Name e)=true∧
  Za9 (fun x=>decide (ZW.Name x=ZY.Name e)) (ZT.Instances (ZU.Design b))<0∧Za9 (fun x=>decide (ZY.Name e=x)) (ZT.Yh (ZU.Design b))<0)∧
 (ZY.Kind e=3→Zig b)∧
 (ZY.Kind e=4→∃ p:Pl,Zec b e p∧p.2.2.2.1=false∧p.2.2.1≠ZY.Net e)∧
 (ZY.Kind e=5→Zar (ZY.Zc9 e) ((sinks (ZU.Design b) (ZY.Net e)).length:Int))
theorem Zo0 {b:ZU} (h:Zap b) (e:ZY) (he:sm QZ e) (hB:Blank e) (hR:Zaq b e):∃ r,V7 e b=some r∧Zd6 b e=some r∧
  (r=true→Zs7 b e):=by
 have hD:=h.ok.1
 have hf:=hD.few
 have hsd:=(Zah h.sm).2.1
 obtain ⟨he1,he2⟩:=Zoh he
 unfold V7 Zd6
 rw [YO _ hf,XJ _ hf,Option.bind_some,Option.bind_some]
 by_cases k1:ZY.Kind e=1
 ·rw [if_pos k1,if_pos k1]
  obtain ⟨⟨p0,p1⟩,c0,c1⟩:=hR.1 (.inl k1)
  obtain ⟨p,hp,hpm⟩:=Znt h p0 p1
  obtain ⟨c2,hc2,hc2s⟩:=ZoE h c0 c1
  rw [hp]
  simp only [Option.bind_some,hc2]
  by_cases q1:(0:Int)≤p.1
  ·rw [if_pos q1,if_pos q1]
   by_cases q2:p.2.2.2.1=true
   ·rw [if_pos q2,if_pos q2]
    obtain ⟨x,hx,hxm⟩:=ZmS hpm q1
    have hx2:atI (ZT.Instances (ZU.Design b)) p.1=some x:=Qd q1 hx
    obtain ⟨⟨d0,d1⟩,_,_⟩:=hD.2.2.1 x hxm
    obtain ⟨c,hc,hcs⟩:=ZoE h d0 d1
    obtain ⟨a1,r,a2⟩:=Zsa c c2 hcs
    have e1:Yw.instance p=p.1:=rfl
    have e2:Yk.instance p=p.1:=rfl
    simp only [e1,e2,hx2,Option.bind_some,hc,a1,a2]
    exact ⟨r,rfl,rfl,fun q=>⟨fun _=>⟨p,x,c,c2,Zm5 p0 hp,q1,q2,hx2,hc,hc2,by rw [a2,q]⟩,fun k=>by omega,fun k=>by omega,fun k=>by omega,fun k=>by omega⟩⟩
   ·rw [if_neg q2,if_neg q2]
    exact ⟨_,rfl,rfl,fun q=>by cases q⟩
  ·rw [if_neg q1,if_neg q1]
   exact ⟨_,rfl,rfl,fun q=>by cases q⟩
 rw [if_neg k1,if_neg k1]
 by_cases k2:ZY.Kind e=2
 ·rw [if_pos k2,if_pos k2]
  obtain ⟨⟨p0,p1⟩,c0,c1⟩:=hR.1 (.inr k2)
  obtain ⟨p,hp,hpm⟩:=Znt h p0 p1
  obtain ⟨c2,hc2,hc2s⟩:=ZoE h c0 c1
  have hbuf:Q9 c2=some (tr (Z4.Kind c2=1∧(Z4.YV c2).length=2)):=by
   unfold Q9
   refine VA (Y2 fun _=>Zch decide_eq_true_iff) ?_
   omega
  have hlN:(ZY.Name e).length≤4611686018427387904:=by have:((ZY.Name e).length:Int)≤1048576:=he1;omega
  rw [hp]
  simp only [Option.bind_some,hc2,show Zbs c2=Q9 c2 from rfl,hbuf,Ze8,ZcC _ hlN,(Zj3 _ (ZY.Name e) hsd).1,(Zj3 _ (ZY.Name e) hsd).2,(ZlD _ (ZY.Name e) hsd).1,(ZlD _ (ZY.Name e) hsd).2]
  have e1:Yw.drives p=p.2.2.2.1:=rfl
  have e2:Yk.drives p=p.2.2.2.1:=rfl
  rw [e1,e2]
  by_cases q2:p.2.2.2.1=true
  ·simp only [if_pos q2]
   exact ⟨_,rfl,rfl,fun q=>by cases q⟩
  simp only [if_neg q2]
  by_cases q3:tr (Z4.Kind c2=1∧(Z4.YV c2).length=2)=true
  ·simp only [if_pos q3]
   by_cases q4:JA (ZY.Name e)=true
   ·simp only [if_pos q4]
    split
    ·rename_i q5
     refine ⟨_,rfl,rfl,fun q=>⟨fun k=>by omega,fun _=>⟨p,c2,Zm5 p0 hp,by simpa using q2,hc2,((QA _).1 q3).1,((QA _).1 q3).2,q4,q5,of_decide_eq_true q⟩,fun k=>by omega,fun k=>by omega,fun k=>by omega⟩⟩
    ·exact ⟨_,rfl,rfl,fun q=>by cases q⟩
   ·simp only [if_neg q4]
    exact ⟨_,rfl,rfl,fun q=>by cases q⟩
  ·simp only [if_neg q3]
   exact ⟨_,rfl,rfl,fun q=>by cases q⟩
 rw [if_neg k2,if_neg k2]
 by_cases k3:ZY.Kind e=3
 ·rw [if_pos k3,if_pos k3]
  obtain ⟨r,a,c,d⟩:=Zse h
  rw [a,c]
  exact ⟨r,rfl,rfl,fun q=>⟨fun k=>by omega,fun k=>by omega,fun _=>d q,fun k=>by omega,fun k=>by omega⟩⟩
 rw [if_neg k3,if_neg k3]
 by_cases k4:ZY.Kind e=4
 ·rw [if_pos k4,if_pos k4]
  obtain ⟨⟨p0,p1⟩,_⟩:=hR.2.1 k4
  obtain ⟨p,hp,hpm⟩:=Znt h p0 p1
  rw [hp]
  simp only [Option.bind_some]
  have e1:Yw.drives p=p.2.2.2.1:=rfl
  have e2:Yk.drives p=p.2.2.2.1:=rfl
  rw [e1,e2]
  by_cases q2:p.2.2.2.1=true
  ·simp only [if_pos q2]
   exact ⟨_,rfl,rfl,fun q=>by cases q⟩
  ·simp only [if_neg q2]
   refine ⟨_,rfl,rfl,fun q=>⟨fun k=>by omega,fun k=>by omega,fun k=>by omega,fun _=>⟨p,Zm5 p0 hp,by simpa using q2,by simp only [Bool.not_eq_true',decide_eq_false_iff_not] at q;exact q⟩,fun k=>by omega⟩⟩
 rw [if_neg k4,if_neg k4]
 have k5:ZY.Kind e=5:=by unfold Blank at hB;omega
 obtain ⟨w,hw1,hw2,hw3⟩:=ZjW h (hR.2.2 k5)
 rw [hw2,VI _ _ hf]
 simp only [Option.bind_some,V9,Zhu _ _ he2,ZhG _ _ he2,hw3.2.2.2.1]
 exact ⟨_,rfl,rfl,fun q=>⟨fun k=>by omega,fun k=>by omega,fun k=>by omega,fun k=>by omega,fun _=>(QA _).1 q⟩⟩
structure ZkS (b:ZU) (e:ZY):Prop where
 blk:Zap b
 blank:Blank e
 range:Zaq b e
 poss:Zs7 b e
 lim:ZY.Kind e=2→(ZT.Instances (ZU.Design b)).length≤13∧(ZT.Yh (ZU.Design b)).length≤29
theorem ZkS.last {b:ZU} {e:ZY} (h:ZkS b e) (k3:ZY.Kind e=3):0<(ZT.Instances (ZU.Design b)).length∧∃ x,(ZT.Instances (ZU.Design b))[(ZT.Instances (ZU.Design b)).length-1]?=some x∧(ZW.Yh x).length=2:=(h.poss.2.2.1 k3).two
theorem ZnX {b:ZU} (h:Zap b) (e:ZY) (he:sm QZ e):∃ c,Zdc e b=some c∧Za0 b e=some c∧(c=0→ZkS b e):=by
 have hB:=h.ok
 unfold Za0 Zdc
 rw [ZgL b h.sm,Option.bind_some,if_pos (Xh hB)]
 ·have hwn:=hB.2.1
  rw [Zjk h e he,ZkF e he,ZkG h e he]
  simp only [Option.bind_some]
  by_cases h1:Blank e
  ·rw [if_pos (Xh h1)]
   by_cases h2:Zaq b e
   ·rw [if_pos (Xh ⟨h1,h2⟩),if_pos (Xh h2)]
    obtain ⟨r,a,c,d⟩:=Zo0 h e he h1 h2
    rw [a,c]
    simp only [Option.bind_some]
    by_cases hr:r=true
    ·rw [if_pos hr,if_pos hr]
     have h14:=hB.1.few.insts
     have h30:=hB.1.2.1.2.1
     by_cases k2:ZY.Kind e=2
     ·rw [if_pos k2,if_pos k2]
      by_cases q1:((ZT.Instances (ZU.Design b)).length:Int)=14
      ·rw [if_pos q1,if_pos q1]
       exact ⟨_,rfl,rfl,fun q=>by cases q⟩
      ·rw [if_neg q1,if_neg q1]
       by_cases q2:((ZT.Yh (ZU.Design b)).length:Int)=30
       ·rw [if_pos q2,if_pos (by omega)]
        exact ⟨_,rfl,rfl,fun q=>by cases q⟩
       ·rw [if_neg q2,if_neg (by omega)]
        exact ⟨_,rfl,rfl,fun _=>⟨h,h1,h2,d hr,fun _=>⟨by omega,by omega⟩⟩⟩
     ·rw [if_neg k2,if_neg k2]
      exact ⟨_,rfl,rfl,fun _=>⟨h,h1,h2,d hr,fun k=>absurd k k2⟩⟩
    ·rw [if_neg hr,if_neg hr]
     exact ⟨_,rfl,rfl,fun q=>by cases q⟩
   ·rw [if_neg (fun q=>h2 ((QA _).1 q).2),if_neg (fun q=>h2 ((QA _).1 q))]
    exact ⟨_,rfl,rfl,fun q=>by cases q⟩
  ·rw [if_neg (fun q=>h1 ((QA _).1 q).1),if_neg (fun q=>h1 ((QA _).1 q))]
   exact ⟨_,rfl,rfl,fun q=>by cases q⟩
end Go.Proofs.YtdabmnfkcnkkbaaGreatDoor
/-
  Plain laws: the code of an edit of any block.
-/
namespace Go.Proofs.YtdabmnfkcnkkbaaGreatDoor
set_option linter.unusedVariables false
set_option linter.unusedSimpArgs false
open Go Go.Sx
theorem ZoL (b:ZU) (e:ZY) (hb:sm Xg b) (he:sm QZ e):∃ c,ZdP b e=some c∧Za0 b e=some c∧(c=0→ZkS b e):=by
 unfold ZdP
 rw [Zk6 b hb,Option.bind_some]
 by_cases hB:Zi9 b
 ·obtain ⟨c,h1,h2,h3⟩:=ZnX ⟨hB,hb⟩ e he
  rw [if_pos (Xh hB),h1]
  exact ⟨c,rfl,h2,h3⟩
 ·rw [if_neg (fun q=>hB ((QA _).1 q))]
  refine ⟨1,rfl,?_,fun q=>by cases q⟩
  unfold Za0
  rw [ZgL b hb,Option.bind_some,if_neg (fun q=>hB ((QA _).1 q))]
end Go.Proofs.YtdabmnfkcnkkbaaGreatDoor
/-
  Plain laws: places, one by one; a place put on another net; an instance more, an instance less.
-/
namespace Go.Proofs.YtdabmnfkcnkkbaaGreatDoor
set_option linter.unusedVariables false
set_option linter.unusedSimpArgs false
open Go Go.Sx
theorem Zas {α β:Type} {g:Nat→α→β}:∀ (l:List α) (m j:Nat),(cat (fun j n=>[g j n]) m l)[j]?=(l[j]?).map (g (m+j))
 | [],m,j=>by simp [cat]
 | x::r,m,0=>by simp [cat]
 | x::r,m,j+1=>by
  simp only [cat,List.singleton_append,List.getElem?_cons_succ,Zas r]
  rw [show m+1+j=m+(j+1) by omega]
theorem VY {α β:Type} {g:Nat→α→β}:∀ (l:List α) (m:Nat),(cat (fun j n=>[g j n]) m l).length=l.length
 | [],m=>rfl
 | x::r,m=>by simp only [cat,List.singleton_append,List.length_cons,VY r]
theorem ZhM {α β:Type} {g:Nat→α→β} (y:α):∀ (l:List α) (m j:Nat),cat (fun j n=>[g j n]) m (l.set j y)=(cat (fun j n=>[g j n]) m l).set j (g (m+j) y)
 | [],m,j=>by simp [cat]
 | x::r,m,0=>by simp [cat]
 | x::r,m,j+1=>by
  simp only [cat,List.singleton_append,List.set_cons_succ,ZhM y r]
  rw [show m+1+j=m+(j+1) by omega]
theorem Zef {α β:Type} (f:Nat→α→List β) {l:List α} {i:Nat} {x:α} (hx:l[i]?=some x):cat f 0 l=cat f 0 (l.take i)++(f i x++cat f (i+1) (l.drop (i+1))):=by
 have hi:=(List.getElem?_eq_some_iff.1 hx).1
 have e:l=l.take i++(x::l.drop (i+1)):=by
  have hd:l.drop i=x::l.drop (i+1):=by
   rw [List.drop_eq_getElem_cons hi];congr 1;exact (List.getElem?_eq_some_iff.1 hx).2
  rw [←hd,List.take_append_drop]
 have e2:=congrArg (cat f 0) e
 rw [ZcN] at e2
 simp only [cat,Nat.zero_add,List.length_take] at e2
 rw [show min i l.length=i by omega] at e2
 exact e2
theorem Ztv {α β:Type} (f:Nat→α→List β) {l:List α} {i j:Nat} {x y:α} {z:β} (hx:l[i]?=some x) (hj:j<(f i x).length) (hy:f i y=(f i x).set j z):cat f 0 (l.set i y)=(cat f 0 l).set ((cat f 0 (l.take i)).length+j) z:=by
 have hi:=(List.getElem?_eq_some_iff.1 hx).1
 rw [Zef f hx,Zef f (l:=l.set i y) (x:=y) (List.getElem?_set_self hi),List.take_set,List.set_eq_of_length_le (by rw [List.length_take];omega),List.drop_set_of_lt (by omega),hy,List.set_append,if_neg (by omega),List.set_append,if_pos (by omega),Nat.add_sub_cancel_left]
abbrev ZdO (d:ZT) (i:Nat):Nat:=(cat Qi 0 ((ZT.Instances d).take i)).length
abbrev YZ (d:ZT):Nat:=(cat Qi 0 (ZT.Instances d)).length
def ZcH (i:Nat) (x:ZW) (j:Nat) (n:Int):Pl:=((i:Int),(j:Int),n,decide ((j:Int)=IntKind.i64.wrap (((ZW.Yh x).length:Int)-1)),())
theorem Ziy (i:Nat) (x:ZW):Qi i x=cat (fun j n=>[ZcH i x j n]) 0 (ZW.Yh x):=rfl
theorem Zfl {i:Nat} {x:ZW} {j:Nat} {n:Int} (h:(ZW.Yh x)[j]?=some n):(Qi i x)[j]?=some (ZcH i x j n):=by
 rw [Ziy,Zas,h,Nat.zero_add];rfl
theorem QB (i:Nat) (x:ZW):(Qi i x).length=(ZW.Yh x).length:=by rw [Ziy,VY]
theorem ZiT (l:List Ym) (m:Nat):cat Zdw m l=cat (fun j p=>[((-1:Int),(j:Int),Ym.Net p,decide (Ym.Dir p=1),())]) m l:=rfl
theorem Zob (l:List Ym) (m:Nat):(cat Zdw m l).length=l.length:=by rw [ZiT,VY]
theorem ZeX {d:ZT} {i j:Nat} {x:ZW} {n:Int} (hx:(ZT.Instances d)[i]?=some x) (hn:(ZW.Yh x)[j]?=some n):(places d)[ZdO d i+j]?=some (ZcH i x j n):=by
 have hj:=(List.getElem?_eq_some_iff.1 hn).1
 unfold places
 rw [Zef Qi hx,List.append_assoc,List.getElem?_append_right (by unfold ZdO;omega),show ZdO d i+j-(cat Qi 0 ((ZT.Instances d).take i)).length=j by unfold ZdO;omega,List.append_assoc,List.getElem?_append_left (by rw [QB];exact hj)]
 exact Zfl hn
theorem Znu {d:ZT} {j:Nat} {q:Ym} (hq:(ZT.Yo d)[j]?=some q):(places d)[YZ d+j]?=some ((-1:Int),(j:Int),Ym.Net q,decide (Ym.Dir q=1),()):=by
 unfold places
 rw [List.getElem?_append_right (by unfold YZ;omega),show YZ d+j-(cat Qi 0 (ZT.Instances d)).length=j by unfold YZ;omega,ZiT,Zas,hq,Nat.zero_add];rfl
theorem Vp {d:ZT} {k:Nat} {p:Pl} (hp:(places d)[k]?=some p) :
  (∃ (i j:Nat) (x:ZW) (n:Int),(ZT.Instances d)[i]?=some x∧(ZW.Yh x)[j]?=some n∧k=ZdO d i+j∧p=ZcH i x j n)∨
  (∃ (j:Nat) (q:Ym),(ZT.Yo d)[j]?=some q∧k=YZ d+j∧p=((-1:Int),(j:Int),Ym.Net q,decide (Ym.Dir q=1),())):=by
 by_cases hk:k<YZ d
 ·left
  have h1:(cat Qi 0 (ZT.Instances d))[k]?=some p:=by
   unfold places at hp
   rwa [List.getElem?_append_left (show k<(cat Qi 0 (ZT.Instances d)).length from hk)] at hp
  have find:∀ (n:Nat),n≤(ZT.Instances d).length→k<ZdO d n→∃ i,i<n∧ZdO d i≤k∧k<ZdO d (i+1):=by
   intro n
   induction n with
   | zero=>intro _ h;simp [ZdO,cat] at h
   | succ n ih =>
    intro hn hlt
    by_cases hq:k<ZdO d n
    ·obtain ⟨i,a,b,c⟩:=ih (by omega) hq
     exact ⟨i,by omega,b,c⟩
    ·exact ⟨n,by omega,by omega,hlt⟩
  obtain ⟨i,hi,hlo,hhi⟩:=find (ZT.Instances d).length (Nat.le_refl _) (by unfold ZdO;rw [List.take_length];exact hk)
  have hx:(ZT.Instances d)[i]?=some (ZT.Instances d)[i]:=List.getElem?_eq_getElem hi
  generalize (ZT.Instances d)[i]=x at hx
  have hs:ZdO d (i+1)=ZdO d i+(ZW.Yh x).length:=by
   unfold ZdO
   rw [ZfD hx,List.length_append,QB]
  have hj:k-ZdO d i<(ZW.Yh x).length:=by omega
  have hn:(ZW.Yh x)[k-ZdO d i]?=some (ZW.Yh x)[k-ZdO d i]:=List.getElem?_eq_getElem hj
  generalize (ZW.Yh x)[k-ZdO d i]=n at hn
  refine ⟨i,k-ZdO d i,x,n,hx,hn,by omega,?_⟩
  have h2:=ZeX hx hn
  rw [show ZdO d i+(k-ZdO d i)=k by omega,hp] at h2
  injection h2
 ·right
  have h1:(cat Zdw 0 (ZT.Yo d))[k-YZ d]?=some p:=by
   unfold places at hp
   rwa [List.getElem?_append_right (show (cat Qi 0 (ZT.Instances d)).length≤k from Nat.le_of_not_lt hk)] at hp
  rw [ZiT,Zas,Nat.zero_add] at h1
  cases hq:(ZT.Yo d)[k-YZ d]? with
  | none=>rw [hq] at h1;cases h1
  | some q =>
   rw [hq] at h1
   injection h1 with h1
   exact ⟨k-YZ d,q,hq,by omega,h1.symm⟩
theorem key_inj {d:ZT} {k k':Nat} {p p':Pl} (hp:(places d)[k]?=some p) (hp':(places d)[k']?=some p') (h1:p.1=p'.1) (h2:p.2.1=p'.2.1):k=k':=by
 rcases Vp hp with ⟨i,j,x,n,_,_,e,rfl⟩ | ⟨j,q,_,e,rfl⟩<;>rcases Vp hp' with ⟨i',j',x',n',_,_,e',rfl⟩ | ⟨j',q',_,e',rfl⟩
 ·simp only [ZcH] at h1 h2
  have:i=i':=by omega
  have:j=j':=by omega
  subst i' j'
  omega
 ·simp only [ZcH] at h1;omega
 ·simp only [ZcH] at h1;omega
 ·simp only at h2
  omega
def ZcJ (x:ZW) (j:Nat) (n:Int):ZW:=(ZW.Name x,ZW.Cell x,List.set (ZW.Yh x) j n,())
def setPort (q:Ym) (n:Int):Ym:=(Ym.Name q,Ym.Dir q,n,())
def conn (d:ZT) (a b:Int) (n:Int):ZT :=
 if a<0 then (ZT.Instances d,ZT.Yh d,match (ZT.Yo d)[b.toNat]? with
  | some q=>(ZT.Yo d).set b.toNat (setPort q n)
  | none=>ZT.Yo d,())
 else (match (ZT.Instances d)[a.toNat]? with
  | some x=>(ZT.Instances d).set a.toNat (ZcJ x b.toNat n)
  | none=>ZT.Instances d,ZT.Yh d,ZT.Yo d,())
theorem ZrI (i:Nat) (x:ZW) (j:Nat) (n:Int):Qi i (ZcJ x j n)=(Qi i x).set j (ZcH i x j n):=by
 rw [Ziy,Ziy]
 show cat (fun (j':Nat) (m:Int)=>[ZcH i (ZcJ x j n) j' m]) 0 (List.set (ZW.Yh x) j n)=_
 have:(fun (j':Nat) (m:Int)=>[ZcH i (ZcJ x j n) j' m])=fun j' m=>[ZcH i x j' m]:=by
  funext j' m
  have hl:(ZW.Yh (ZcJ x j n)).length=(ZW.Yh x).length:=List.length_set
  simp only [ZcH,hl]
 rw [this,ZhM,Nat.zero_add]
theorem X3 {d:ZT} {k:Nat} {p:Pl} (hp:(places d)[k]?=some p) (n:Int):places (conn d p.1 p.2.1 n)=(places d).set k (p.1,p.2.1,n,p.2.2.2.1,()):=by
 rcases Vp hp with ⟨i,j,x,m,hx,hn,e,rfl⟩ | ⟨j,q,hq,e,rfl⟩
 ·have hj:=(List.getElem?_eq_some_iff.1 hn).1
  have e1:conn d (ZcH i x j m).1 (ZcH i x j m).2.1 n=((ZT.Instances d).set i (ZcJ x j n),ZT.Yh d,ZT.Yo d,()):=by
   unfold conn
   rw [if_neg (by simp only [ZcH];omega)]
   simp only [ZcH,Int.toNat_natCast,hx]
  rw [e1]
  unfold places
  show cat Qi 0 ((ZT.Instances d).set i (ZcJ x j n))++cat Zdw 0 (ZT.Yo d)=_
  have hlt:k<(cat Qi 0 (ZT.Instances d)).length:=by
   rw [Zef Qi hx,List.length_append,List.length_append,QB]
   unfold ZdO at e
   omega
  rw [Ztv Qi hx (j:=j) (z:=ZcH i x j n) (by rw [QB];exact hj) (ZrI i x j n),List.set_append,if_pos hlt,e]
  rfl
 ·have e1:conn d (-1) (j:Int) n=(ZT.Instances d,ZT.Yh d,(ZT.Yo d).set j (setPort q n),()):=by
   unfold conn
   rw [if_pos (by omega)]
   simp only [Int.toNat_natCast,hq]
  show places (conn d (-1) (j:Int) n)=_
  rw [e1]
  unfold places
  show cat Qi 0 (ZT.Instances d)++cat Zdw 0 ((ZT.Yo d).set j (setPort q n))=_
  rw [List.set_append,if_neg (by unfold YZ at e;omega),ZiT,ZhM,Nat.zero_add,e,show YZ d+j-(cat Qi 0 (ZT.Instances d)).length=j by unfold YZ;omega,ZiT]
  rfl
end Go.Proofs.YtdabmnfkcnkkbaaGreatDoor
/-
  Plain laws: the wires' sinks out of the places' nodes.
-/
namespace Go.Proofs.YtdabmnfkcnkkbaaGreatDoor
set_option linter.unusedVariables false
set_option linter.unusedSimpArgs false
open Go Go.Sx
def nth (pl:List Pl) (net:Int) (k:Nat):Nat:=(cat (JO net) 0 (pl.take k)).length
theorem ZgJ {net:Int} {k:Nat} {p:Pl} (h:¬(p.2.2.1=net∧p.2.2.2.1=false)):JO net k p=[]:=by
 unfold JO
 split
 ·split
  ·rfl
  ·rename_i h1 h2;exact absurd ⟨h1,by simpa using h2⟩ h
 ·rfl
theorem ZgK {net:Int} {k:Nat} {p:Pl} (h1:p.2.2.1=net) (h2:p.2.2.2.1=false):JO net k p=[(k:Int)]:=by
 unfold JO
 rw [if_pos h1,if_neg (by rw [h2];simp)]
theorem Zi2 {pl:List Pl} {net:Int} {k:Nat} {p:Pl} (hp:pl[k]?=some p) (h1:p.2.2.1=net) (h2:p.2.2.2.1=false):(cat (JO net) 0 pl)[nth pl net k]?=some (k:Int):=by
 rw [Zef (JO net) hp,ZgK h1 h2]
 unfold nth
 rw [List.getElem?_append_right (Nat.le_refl _),Nat.sub_self]
 rfl
theorem ZrJ {pl:List Pl} {net:Int} {v:Int} (hv:v∈cat (JO net) 0 pl):∃ (k:Nat) (p:Pl),v=(k:Int)∧pl[k]?=some p∧p.2.2.1=net∧p.2.2.2.1=false:=by
 obtain ⟨k,p,hp,hv⟩:=ZgD.1 hv
 by_cases h:p.2.2.1=net∧p.2.2.2.1=false
 ·rw [ZgK h.1 h.2] at hv
  simp only [List.mem_singleton] at hv
  exact ⟨k,p,by rw [hv];simp,hp,h.1,h.2⟩
 ·rw [ZgJ h] at hv
  cases hv
theorem Zru {pl:List Pl} {net:Int} {k:Nat} {p:Pl} (hp:pl[k]?=some p) (h1:p.2.2.1=net) (h2:p.2.2.2.1=false):nth pl net k<(cat (JO net) 0 pl).length:=(List.getElem?_eq_some_iff.1 (Zi2 hp h1 h2)).1
def Xo (b:ZU) (k:Nat):Int:=match (places (ZU.Design b))[k]? with
 | some p=>if p.2.2.2.1=true then 0 else match (ZU.Ye b)[p.2.2.1.toNat]? with
  | some w=>((Z9.Ze4 w)[nth (places (ZU.Design b)) p.2.2.1 k]?).getD 0
  | none=>0
 | none=>0
def Zc1 (w:Z9) (l:List Int):Z9:=(Z9.Parent w,Z9.Res w,Z9.Cap w,l,())
def wired (pl:List Pl) (ws:List Z9) (nd:Nat→Int):List Z9:=cat (fun v w=>[Zc1 w ((cat (JO (v:Int)) 0 pl).map (fun k=>nd k.toNat))]) 0 ws
theorem ZcG (pl:List Pl) (ws:List Z9) (nd:Nat→Int) (v:Nat):(wired pl ws nd)[v]?=(ws[v]?).map (fun w=>Zc1 w ((cat (JO (v:Int)) 0 pl).map (fun k=>nd k.toNat))):=by
 unfold wired
 rw [Zas,Nat.zero_add]
theorem Zfy (pl:List Pl) (ws:List Z9) (nd:Nat→Int):(wired pl ws nd).length=ws.length:=VY _ _
def ZeA (pl:List Pl) (ws:List Z9) (nd:Nat→Int) (k:Nat):List Z9:=wired (pl.take k) ws nd
theorem Zow {pl:List Pl} {ws:List Z9} {nd:Nat→Int} {k:Nat} {p:Pl} {w:Z9} (hp:pl[k]?=some p) (h2:p.2.2.2.1=false) (h0:0≤p.2.2.1) (hw:ws[p.2.2.1.toNat]?=some w) :
  (ZeA pl ws nd k)[p.2.2.1.toNat]?=some (Zc1 w ((cat (JO p.2.2.1) 0 (pl.take k)).map (fun k=>nd k.toNat)))∧
  (ZeA pl ws nd k).set p.2.2.1.toNat (Zc1 w ((cat (JO p.2.2.1) 0 (pl.take k)).map (fun k=>nd k.toNat)++[nd k]))=ZeA pl ws nd (k+1):=by
 have hk:=(List.getElem?_eq_some_iff.1 hp).1
 have hlt:=(List.getElem?_eq_some_iff.1 hw).1
 unfold ZeA
 constructor
 ·rw [ZcG,hw,show ((p.2.2.1.toNat:Nat):Int)=p.2.2.1 by omega]
  rfl
 ·apply List.ext_getElem?
  intro v
  rw [List.getElem?_set,ZcG,ZcG]
  have hs:∀ net:Int,cat (JO net) 0 (pl.take (k+1))=cat (JO net) 0 (pl.take k)++JO net k p:=fun net=>ZfD hp
  split
  ·rename_i e
   subst e
   rw [Zfy,if_pos hlt,hw,hs,show ((p.2.2.1.toNat:Nat):Int)=p.2.2.1 by omega,ZgK rfl h2,List.map_append]
   simp only [List.map_cons,List.map_nil,Int.toNat_natCast,Option.map_some]
  ·rename_i e
   congr 1
   funext w'
   congr 1
   rw [hs,ZgJ (fun q=>e (by have:=q.1;omega)),List.append_nil]
theorem Zov {pl:List Pl} {ws:List Z9} {nd:Nat→Int} {k:Nat} {p:Pl} (hp:pl[k]?=some p) (h2:p.2.2.2.1=true):ZeA pl ws nd (k+1)=ZeA pl ws nd k:=by
 unfold ZeA
 apply List.ext_getElem?
 intro v
 rw [ZcG,ZcG]
 congr 1
 funext w'
 congr 1
 rw [ZfD hp,ZgJ (fun q=>by rw [h2] at q;cases q.2),List.append_nil]
end Go.Proofs.YtdabmnfkcnkkbaaGreatDoor
/-
  Plain laws: maps by their keys.
-/
namespace Go.Proofs.YtdabmnfkcnkkbaaGreatDoor
set_option linter.unusedVariables false
set_option linter.unusedSimpArgs false
open Go Go.Sx
abbrev Key:Ty:=.pair (.int .i64) (.pair (.int .i64) .unit)
theorem Zni (x y:Key.den):keq Key x y=true↔x=y:=by
 obtain ⟨a,b,⟨⟩⟩:=x
 obtain ⟨c,d,⟨⟩⟩:=y
 simp [keq]
theorem ZlA {k v:Ty} (hk:∀ x y:k.den,keq k x y=true↔x=y) (x z:k.den) (y:v.den):∀ (d:List (k.den×v.den)),ZgY k v (Zj5 k v d x y) z=if keq k z x=true then some y else ZgY k v d z
 | []=>by simp only [Zj5,ZgY]
 | e::l=>by
  by_cases h1:keq k x e.1=true
  ·simp only [Zj5,if_pos h1,ZgY]
   by_cases h2:keq k z x=true
   ·simp only [if_pos h2]
   ·have h3:¬keq k z e.1=true:=fun q=>h2 ((hk _ _).2 (((hk _ _).1 q).trans ((hk _ _).1 h1).symm))
    simp only [if_neg h2,if_neg h3]
  ·simp only [Zj5,if_neg h1,ZgY]
   by_cases h3:keq k z e.1=true
   ·have h2:¬keq k z x=true:=fun q=>h1 ((hk _ _).2 (((hk _ _).1 q).symm.trans ((hk _ _).1 h3)))
    simp only [if_pos h3,if_neg h2]
   ·simp only [if_neg h3,ZlA hk x z y l]
theorem ZlB {v:Ty} (d:List (Key.den×v.den)) (x:Key.den) (y:v.den):ZgY Key v (Zj5 Key v d x y) x=some y:=by
 rw [ZlA Zni,if_pos ((Zni _ _).2 rfl)]
theorem ZjG {v:Ty} (d:List (Key.den×v.den)) {x z:Key.den} (y:v.den) (h:z≠x):ZgY Key v (Zj5 Key v d x y) z=ZgY Key v d z:=by
 rw [ZlA Zni,if_neg (fun q=>h ((Zni _ _).1 q))]
end Go.Proofs.YtdabmnfkcnkkbaaGreatDoor
/-
  Plain laws: nodes by keys against nodes by places; kept when a place is put on another net, when an instance is added or removed.
-/
namespace Go.Proofs.YtdabmnfkcnkkbaaGreatDoor
set_option linter.unusedVariables false
set_option linter.unusedSimpArgs false
open Go Go.Sx
abbrev ZhI:=List (Key.den×(Ty.int .i64).den)
def Zpv (p:Pl):Key.den:=(p.1,p.2.1,())
def Maps (nodes:ZhI) (pl:List Pl) (nd:Nat→Int):Prop:=∀ (k:Nat) (p:Pl),pl[k]?=some p→p.2.2.2.1=false→ZgY Key (.int .i64) nodes (Zpv p)=some (nd k)
theorem Zpw {d:ZT} {k k':Nat} {p p':Pl} (hp:(places d)[k]?=some p) (hp':(places d)[k']?=some p') (h:Zpv p=Zpv p'):k=k':=by
 unfold Zpv at h
 injection h with h1 h2
 injection h2 with h2 _
 exact key_inj hp hp' h1 h2
theorem Maps.put {nodes:ZhI} {d:ZT} {nd:Nat→Int} (h:Maps nodes (places d) nd) {k0:Nat} {p0:Pl} (hp0:(places d)[k0]?=some p0) (v:Int):Maps (Zj5 Key (.int .i64) nodes (Zpv p0) v) (places d) (fun k=>if k=k0 then v else nd k):=by
 intro k p hp hd
 by_cases e:k=k0
 ·subst e
  rw [hp0] at hp
  injection hp with hp
  subst hp
  simp only [if_true]
  exact ZlB _ _ _
 ·simp only [if_neg e]
  rw [ZjG _ _ (fun q=>e (Zpw hp hp0 q))]
  exact h k p hp hd
theorem Maps.set {nodes:ZhI} {pl:List Pl} {nd:Nat→Int} (h:Maps nodes pl nd) {k0:Nat} {p0:Pl} (hp0:pl[k0]?=some p0) (n:Int):Maps nodes (pl.set k0 (p0.1,p0.2.1,n,p0.2.2.2.1,())) nd:=by
 intro k p hp hd
 by_cases e:k0=k
 ·subst e
  rw [List.getElem?_set_self (List.getElem?_eq_some_iff.1 hp0).1] at hp
  injection hp with hp
  subst hp
  exact h k0 p0 hp0 hd
 ·rw [List.getElem?_set_ne e] at hp
  exact h k p hp hd
def addInst (d:ZT) (x:ZW) (s:List UInt8):ZT:=(ZT.Instances d++[x],ZT.Yh d++[s],ZT.Yo d,())
theorem Zea (d:ZT) (x:ZW) (s:List UInt8):places (addInst d x s)=cat Qi 0 (ZT.Instances d)++Qi (ZT.Instances d).length x++cat Zdw 0 (ZT.Yo d):=by
 unfold places addInst
 show cat Qi 0 (ZT.Instances d++[x])++_=_
 rw [ZcN,Nat.zero_add]
 simp only [cat,List.append_nil]
theorem ZnN {d:ZT} {x:ZW} {s:List UInt8} {k:Nat} (hk:k<YZ d):(places (addInst d x s))[k]?=(places d)[k]?:=by
 rw [Zea,List.append_assoc,List.getElem?_append_left hk]
 unfold places
 rw [List.getElem?_append_left hk]
theorem add_mid {d:ZT} {x:ZW} {s:List UInt8} {j:Nat} (hj:j<(ZW.Yh x).length):(places (addInst d x s))[YZ d+j]?=(Qi (ZT.Instances d).length x)[j]?:=by
 rw [Zea,List.append_assoc,List.getElem?_append_right (by unfold YZ;omega),show YZ d+j-(cat Qi 0 (ZT.Instances d)).length=j by unfold YZ;omega,List.getElem?_append_left (by rw [QB];exact hj)]
theorem ZnM {d:ZT} {x:ZW} {s:List UInt8} {k:Nat} (hk:YZ d≤k):(places (addInst d x s))[k+(ZW.Yh x).length]?=(places d)[k]?:=by
 have h1:(cat Qi 0 (ZT.Instances d)).length≤k:=hk
 rw [Zea,List.getElem?_append_right (by rw [List.length_append,QB];omega),List.length_append,QB]
 unfold places
 rw [List.getElem?_append_right h1]
 congr 1
 omega
def ZoX (nd:Nat→Int) (m:Nat) (v:Int) (k:Nat):Int:=if k<m then nd k else if k=m then v else if k=m+1 then 0 else nd (k-2)
theorem Maps.add {nodes:ZhI} {d:ZT} {nd:Nat→Int} (h:Maps nodes (places d) nd) {x:ZW} {s:List UInt8} (h2:(ZW.Yh x).length=2) (hi:(ZT.Instances d).length≤1048576) (v:Int) :
  Maps (Zj5 Key (.int .i64) nodes (((ZT.Instances d).length:Int),0,()) v) (places (addInst d x s)) (ZoX nd (YZ d) v):=by
 intro k p hp hd
 have other:∀ (k':Nat),(places d)[k']?=some p→ZgY Key (.int .i64) (Zj5 Key (.int .i64) nodes (((ZT.Instances d).length:Int),0,()) v) (Zpv p)=ZgY Key (.int .i64) nodes (Zpv p):=by
  intro k' hp'
  refine ZjG _ _ (fun q=>?_)
  unfold Zpv at q
  injection q with q1 _
  rcases Vp hp' with ⟨i,j,y,n,hy,_,_,rfl⟩ | ⟨j,q',_,_,rfl⟩
  ·have:=(List.getElem?_eq_some_iff.1 hy).1
   simp only [ZcH] at q1
   omega
  ·simp only at q1
   omega
 unfold ZoX
 by_cases k1:k<YZ d
 ·rw [if_pos k1]
  rw [ZnN k1] at hp
  rw [other k hp]
  exact h k p hp hd
 ·rw [if_neg k1]
  by_cases k2:k=YZ d
  ·rw [if_pos k2]
   have h3:=add_mid (d:=d) (x:=x) (s:=s) (j:=0) (by omega)
   rw [Nat.add_zero,←k2,hp] at h3
   have h4:(ZW.Yh x)[0]?=some (ZW.Yh x)[0]:=List.getElem?_eq_getElem (by omega)
   rw [Zfl h4] at h3
   injection h3 with h3
   rw [h3]
   exact ZlB _ _ _
  ·rw [if_neg k2]
   by_cases k3:k=YZ d+1
   ·-- it drives
    exfalso
    have h3:=add_mid (d:=d) (x:=x) (s:=s) (j:=1) (by omega)
    rw [←k3,hp] at h3
    have h4:(ZW.Yh x)[1]?=some (ZW.Yh x)[1]:=List.getElem?_eq_getElem (by omega)
    rw [Zfl h4] at h3
    injection h3 with h3
    rw [h3] at hd
    simp only [ZcH,h2,decide_eq_false_iff_not] at hd
    exact hd (by rw [V4 (by omega) (by omega)];rfl)
   ·rw [if_neg k3]
    have h3:=ZnM (d:=d) (x:=x) (s:=s) (k:=k-2) (by omega)
    rw [h2,show k-2+2=k by omega,hp] at h3
    rw [other (k-2) h3.symm]
    exact h (k-2) p h3.symm hd
def XQ (d:ZT):ZT:=((ZT.Instances d).take ((ZT.Instances d).length-1),(ZT.Yh d).take ((ZT.Yh d).length-1),ZT.Yo d,())
theorem ZoI {d:ZT} {x:ZW} (hn:0<(ZT.Instances d).length) (hx:(ZT.Instances d)[(ZT.Instances d).length-1]?=some x):ZT.Instances d=ZT.Instances (XQ d)++[x]:=by
 show ZT.Instances d=(ZT.Instances d).take ((ZT.Instances d).length-1)++[x]
 rw [←Y7 hx,show (ZT.Instances d).length-1+1=(ZT.Instances d).length by omega,List.take_length]
theorem Zg1 {d:ZT} {x:ZW} {s:List UInt8} (hn:0<(ZT.Instances d).length) (hx:(ZT.Instances d)[(ZT.Instances d).length-1]?=some x):places d=places (addInst (XQ d) x s):=by
 unfold places
 show cat Qi 0 (ZT.Instances d)++cat Zdw 0 (ZT.Yo d)=cat Qi 0 (ZT.Instances (XQ d)++[x])++cat Zdw 0 (ZT.Yo d)
 rw [←ZoI hn hx]
def Zn5 (nd:Nat→Int) (m:Nat) (k:Nat):Int:=if k<m then nd k else nd (k+2)
theorem Maps.cut {nodes:ZhI} {d:ZT} {nd:Nat→Int} (h:Maps nodes (places d) nd) {x:ZW} (hn:0<(ZT.Instances d).length) (hx:(ZT.Instances d)[(ZT.Instances d).length-1]?=some x) (h2:(ZW.Yh x).length=2) :
  Maps nodes (places (XQ d)) (Zn5 nd (YZ (XQ d))):=by
 rw [Zg1 (s:=[]) hn hx] at h
 intro k p hp hd
 unfold Zn5
 by_cases k1:k<YZ (XQ d)
 ·rw [if_pos k1]
  exact h k p (by rw [ZnN k1];exact hp) hd
 ·rw [if_neg k1]
  have h3:=ZnM (d:=XQ d) (x:=x) (s:=[]) (k:=k) (by omega)
  rw [h2,hp] at h3
  exact h (k+2) p h3 hd
end Go.Proofs.YtdabmnfkcnkkbaaGreatDoor
/-
  Plain laws: the map of nodes, place by place; lists of nodes.
-/
namespace Go.Proofs.YtdabmnfkcnkkbaaGreatDoor
set_option linter.unusedVariables false
set_option linter.unusedSimpArgs false
open Go Go.Sx
def JN (pl:List Pl) (f:Nat→Int):Nat→ZhI
 | 0=>[]
 | k+1=>match pl[k]? with
  | some p=>if p.2.2.2.1=true then JN pl f k else Zj5 Key (.int .i64) (JN pl f k) (Zpv p) (f k)
  | none=>JN pl f k
theorem Zj7 {pl:List Pl} {f:Nat→Int} {k:Nat} {p:Pl} (hp:pl[k]?=some p) (h:p.2.2.2.1=true):JN pl f (k+1)=JN pl f k:=by
 simp only [JN,hp,h,if_true]
theorem ZlF {pl:List Pl} {f:Nat→Int} {k:Nat} {p:Pl} (hp:pl[k]?=some p) (h:¬p.2.2.2.1=true):JN pl f (k+1)=Zj5 Key (.int .i64) (JN pl f k) (Zpv p) (f k):=by
 simp only [JN,hp,h,if_false]
 rfl
theorem ZgF (d:ZT) (f:Nat→Int):∀ (k:Nat),k≤(places d).length→∀ (j:Nat) (p:Pl),j<k→(places d)[j]?=some p→p.2.2.2.1=false→ZgY Key (.int .i64) (JN (places d) f k) (Zpv p)=some (f j)
 | 0,_,j,p,hj,_,_=>by omega
 | k+1,hk,j,p,hj,hp,hd=>by
  have hq:(places d)[k]?=some (places d)[k]:=List.getElem?_eq_getElem (by omega)
  generalize (places d)[k]=q at hq
  by_cases hqd:q.2.2.2.1=true
  ·rw [Zj7 hq hqd]
   refine ZgF d f k (by omega) j p ?_ hp hd
   by_cases e:j=k
   ·subst e
    rw [hp] at hq
    injection hq with hq
    subst hq
    rw [hqd] at hd;cases hd
   ·omega
  ·rw [ZlF hq hqd]
   by_cases e:j=k
   ·subst e
    rw [hp] at hq
    injection hq with hq
    subst hq
    exact ZlB _ _ _
   ·rw [ZjG _ _ (fun h=>e (Zpw hp hq h))]
    exact ZgF d f k (by omega) j p (by omega) hp hd
theorem ZgZ (d:ZT) (f:Nat→Int):Maps (JN (places d) f (places d).length) (places d) f:=fun k p hp hd=>ZgF d f _ (Nat.le_refl _) k p (List.getElem?_eq_some_iff.1 hp).1 hp hd
def ZlC (l:List Int) (k:Nat):Int:=(l[k]?).getD 0
theorem Znq {l:List Int} {i:Nat} {v:Int} (hi:i<l.length) (k:Nat):ZlC (l.set i v) k=if k=i then v else ZlC l k:=by
 unfold ZlC
 rw [List.getElem?_set]
 by_cases e:i=k
 ·subst e;rw [if_pos rfl,if_pos hi,if_pos rfl];rfl
 ·rw [if_neg e,if_neg (fun q=>e q.symm)]
theorem ZsM {l:List Int} {m:Nat} (hm:m≤l.length) (v:Int) (k:Nat):ZlC (l.take m++[v,0]++l.drop m) k=ZoX (ZlC l) m v k:=by
 unfold ZlC ZoX
 have hl:(l.take m).length=m:=by rw [List.length_take];omega
 by_cases k1:k<m
 ·rw [if_pos k1,List.append_assoc,List.getElem?_append_left (by omega),List.getElem?_take,if_pos k1]
 ·rw [if_neg k1]
  by_cases k2:k=m
  ·rw [if_pos k2,List.append_assoc,List.getElem?_append_right (by omega),hl,k2,Nat.sub_self];rfl
  ·rw [if_neg k2]
   by_cases k3:k=m+1
   ·rw [if_pos k3,List.append_assoc,List.getElem?_append_right (by omega),hl,k3,show m+1-m=1 by omega];rfl
   ·rw [if_neg k3,List.getElem?_append_right (by rw [List.length_append,hl,List.length_cons,List.length_singleton];omega),List.length_append,hl,List.length_cons,List.length_singleton,List.getElem?_drop]
    congr 2
    omega
theorem ZsL {l:List Int} {m:Nat} (hm:m+2≤l.length) (k:Nat):ZlC (l.take m++l.drop (m+2)) k=Zn5 (ZlC l) m k:=by
 unfold ZlC Zn5
 have hl:(l.take m).length=m:=by rw [List.length_take];omega
 by_cases k1:k<m
 ·rw [if_pos k1,List.getElem?_append_left (by omega),List.getElem?_take,if_pos k1]
 ·rw [if_neg k1,List.getElem?_append_right (by omega),hl,List.getElem?_drop]
  congr 2
  omega
end Go.Proofs.YtdabmnfkcnkkbaaGreatDoor
/-
  Plain laws: what edits make of designs, of nodes by place.
-/
namespace Go.Proofs.YtdabmnfkcnkkbaaGreatDoor
set_option linter.unusedVariables false
set_option linter.unusedSimpArgs false
open Go Go.Sx
theorem Zsi {d:ZT} {x:ZW} {s:List UInt8} {a b n:Int} (ha:a<((ZT.Instances d).length:Int)):conn (addInst d x s) a b n=addInst (conn d a b n) x s:=by
 unfold conn
 by_cases h:a<0
 ·rw [if_pos h,if_pos h];rfl
 ·rw [if_neg h,if_neg h]
  have hlt:a.toNat<(ZT.Instances d).length:=by omega
  have hy:=List.getElem?_eq_getElem hlt
  generalize (ZT.Instances d)[a.toNat]=y at hy
  have e:(ZT.Instances (addInst d x s))[a.toNat]?=some y:=by
   show (ZT.Instances d++[x])[a.toNat]?=some y
   rw [List.getElem?_append_left hlt];exact hy
  rw [e,hy]
  have e2:List.set (ZT.Instances (addInst d x s)) a.toNat (ZcJ y b.toNat n)=(ZT.Instances d).set a.toNat (ZcJ y b.toNat n)++[x]:=by
   show List.set (ZT.Instances d++[x]) a.toNat _=_
   rw [List.set_append,if_pos hlt]
  show (List.set (ZT.Instances (addInst d x s)) a.toNat (ZcJ y b.toNat n),_)=_
  rw [e2]
  rfl
theorem Xu {d:ZT} {a b n:Int}:(ZT.Instances (conn d a b n)).length=(ZT.Instances d).length:=by
 unfold conn
 split
 ·rfl
 ·show (match (ZT.Instances d)[a.toNat]? with | some x=>(ZT.Instances d).set a.toNat (ZcJ x b.toNat n) | none=>ZT.Instances d).length=_
  split
  ·rw [List.length_set]
  ·rfl
theorem QH {d:ZT} {a b n:Int}:ZT.Yh (conn d a b n)=ZT.Yh d:=by
 unfold conn
 split<;>rfl
theorem Zfj {d:ZT} {a b n:Int}:(ZT.Yo (conn d a b n)).length=(ZT.Yo d).length:=by
 unfold conn
 split
 ·show (match (ZT.Yo d)[b.toNat]? with | some x=>(ZT.Yo d).set b.toNat (setPort x n) | none=>ZT.Yo d).length=_
  split
  ·rw [List.length_set]
  ·rfl
 ·rfl
theorem Zeg {d:ZT} {a b n:Int} {i:Nat} {y:ZW} (hy:(ZT.Instances (conn d a b n))[i]?=some y):∃ x,(ZT.Instances d)[i]?=some x∧ZW.Name y=ZW.Name x∧ZW.Cell y=ZW.Cell x∧(ZW.Yh y).length=(ZW.Yh x).length∧((i:Int)≠a→y=x)∧∀ m∈ZW.Yh y,m∈ZW.Yh x∨m=n:=by
 unfold conn at hy
 split at hy
 ·exact ⟨y,hy,rfl,rfl,rfl,fun _=>rfl,fun m hm=>.inl hm⟩
 ·rename_i h
  have hy:(match (ZT.Instances d)[a.toNat]? with | some x=>(ZT.Instances d).set a.toNat (ZcJ x b.toNat n) | none=>ZT.Instances d)[i]?=some y:=hy
  split at hy
  ·rename_i x hx
   rw [List.getElem?_set] at hy
   split at hy
   ·rename_i e
    split at hy
    ·injection hy with hy
     subst hy
     refine ⟨x,by rw [←e];exact hx,rfl,rfl,List.length_set,fun q=>absurd (by omega) q,fun m hm=>?_⟩
     rcases List.mem_or_eq_of_mem_set hm with hm | hm
     ·exact .inl hm
     ·exact .inr hm
    ·cases hy
   ·exact ⟨y,hy,rfl,rfl,rfl,fun _=>rfl,fun m hm=>.inl hm⟩
  ·exact ⟨y,hy,rfl,rfl,rfl,fun _=>rfl,fun m hm=>.inl hm⟩
theorem Few.conn {d:ZT} (h:Few d) (a b n:Int):Few (conn d a b n):=by
 refine ⟨by rw [Xu];exact h.insts,by rw [Zfj];exact h.ports,fun y hy=>?_⟩
 obtain ⟨i,hi⟩:=List.getElem?_of_mem hy
 obtain ⟨x,hx,_,_,hl,_⟩:=Zeg hi
 rw [hl]
 exact h.nets x (List.mem_of_getElem? hx)
theorem Few.add {d:ZT} (h:Few d) (h13:(ZT.Instances d).length≤13) {x:ZW} (hx:(ZW.Yh x).length≤5) (s:List UInt8):Few (addInst d x s):=by
 refine ⟨?_,h.ports,fun y hy=>?_⟩
 ·show (ZT.Instances d++[x]).length≤14
  rw [List.length_append,List.length_singleton];omega
 ·rcases List.mem_append.1 (show y∈ZT.Instances d++[x] from hy) with hy | hy
  ·exact h.nets y hy
  ·rw [List.mem_singleton] at hy
   subst hy;exact hx
theorem Few.cut {d:ZT} (h:Few d):Few (XQ d):=by
 refine ⟨?_,h.ports,fun y hy=>h.nets y (List.mem_of_mem_take (show y∈(ZT.Instances d).take _ from hy))⟩
 show ((ZT.Instances d).take _).length≤14
 rw [List.length_take]
 have:=h.insts
 omega
def Zhj (pl:List Pl) (n:Nat):Prop:=∀ p∈pl,p.2.2.2.1=false→0≤p.2.2.1∧p.2.2.1<(n:Int)
theorem Zhj.set {pl:List Pl} {n:Nat} (h:Zhj pl n) {k0:Nat} {p0:Pl} {m:Int} (h0:0≤m) (h1:m<(n:Int)):Zhj (pl.set k0 (p0.1,p0.2.1,m,p0.2.2.2.1,())) n:=by
 intro p hp hd
 rcases List.mem_or_eq_of_mem_set hp with hp | hp
 ·exact h p hp hd
 ·subst hp;exact ⟨h0,h1⟩
def swapped (b:ZU) (i:Int) (c:Int):ZU:=(ZU.Library b,(match (ZT.Instances (ZU.Design b))[i.toNat]? with
 | some x=>(ZT.Instances (ZU.Design b)).set i.toNat (ZW.Name x,c,ZW.Yh x,())
 | none=>ZT.Instances (ZU.Design b),ZT.Yh (ZU.Design b),ZT.Yo (ZU.Design b),()),ZU.Ye b,())
def mvD (b:ZU) (p:Pl) (n:Int):ZT:=conn (ZU.Design b) p.1 p.2.1 n
def mvN (b:ZU) (k:Nat) (v:Int) (j:Nat):Int:=if j=k then v else Xo b j
def moved (b:ZU) (k:Nat) (p:Pl) (n v:Int):ZU:=(ZU.Library b,mvD b p n,wired (places (mvD b p n)) (ZU.Ye b) (mvN b k v),())
abbrev ZpX:Z9:=([-1],[0],[0],[],())
def ZmH (b:ZU) (e:ZY) (p:Pl):ZW:=(ZY.Name e,ZY.Cell e,[p.2.2.1,((ZT.Yh (ZU.Design b)).length:Int)],())
def ZnH (b:ZU) (e:ZY) (p:Pl):ZT:=addInst (conn (ZU.Design b) p.1 p.2.1 ((ZT.Yh (ZU.Design b)).length:Int)) (ZmH b e p) (ZY.Name e)
def Zpi (b:ZU) (k:Nat):Nat:=if k<YZ (ZU.Design b) then k else k+2
def Zvq (b:ZU) (k:Nat) (j:Nat):Int:=if j=Zpi b k then 0 else ZoX (Xo b) (YZ (ZU.Design b)) (Xo b k) j
def buffered (b:ZU) (e:ZY) (k:Nat) (p:Pl):ZU:=(ZU.Library b,ZnH b e p,wired (places (ZnH b e p)) (ZU.Ye b++[ZpX]) (Zvq b k),())
def unD (b:ZU) (p:Pl) (m:Int):ZT:=XQ (conn (ZU.Design b) p.1 p.2.1 m)
def unN (b:ZU) (k:Nat):Nat→Int:=Zn5 (mvN b k (Xo b (YZ (ZU.Design b)-2))) (YZ (ZU.Design b)-2)
def ZjU (b:ZU) (k:Nat) (p:Pl) (m:Int):ZU:=(ZU.Library b,unD b p m,wired (places (unD b p m)) ((ZU.Ye b).take ((ZU.Ye b).length-1)) (unN b k),())
def Zth (b:ZU) (n:Int) (w:Z9):ZU:=(ZU.Library b,ZU.Design b,(ZU.Ye b).set n.toNat w,())
end Go.Proofs.YtdabmnfkcnkkbaaGreatDoor
/-
  Plain laws: clones are what they are made of.
-/
namespace Go.Proofs.YtdabmnfkcnkkbaaGreatDoor
set_option linter.unusedVariables false
set_option linter.unusedSimpArgs false
open Go Go.Sx
theorem Zam {α:Type} {l:List α} {k:Nat} {x:α} (hx:l[k]?=some x):l.set k x=l:=by
 apply List.ext_getElem?
 intro j
 rw [List.getElem?_set]
 split
 ·rename_i e;subst e
  rw [if_pos (List.getElem?_eq_some_iff.1 hx).1,hx]
 ·rfl
theorem J4 (l:List Int) (h:l.length≤1048576):Yn l=some l:=by
 unfold Yn
 rw [Z5 (by rw [List.length_nil];omega)];rfl
theorem Zct (l:List Int) (h:l.length≤1048576):XO l=some l:=by
 unfold XO
 rw [Z5 (by rw [List.length_nil];omega)];rfl
theorem ZeH (w:Z9) (hw:sm Xr w):Zay w=some w:=by
 obtain ⟨a1,a2,a3,a4⟩:=Zkb hw
 unfold Zay
 rw [J4 _ (Z8 a1),Option.bind_some,J4 _ (Z8 a2),Option.bind_some,J4 _ (Z8 a3),Option.bind_some,J4 _ (Z8 a4),Option.bind_some]
theorem ZgO (w:Z9) (hw:sm Xr w):ZaK w=some w:=by
 obtain ⟨a1,a2,a3,a4⟩:=Zkb hw
 unfold ZaK
 rw [Zct _ (Z8 a1),Option.bind_some,Zct _ (Z8 a2),Option.bind_some,Zct _ (Z8 a3),Option.bind_some,Zct _ (Z8 a4),Option.bind_some]
theorem Zg9 (d:ZT) (hd:sm YQ d):Vh d=some d:=by
 obtain ⟨s1,s2,s3⟩:=ZaZ hd
 have l1:=Z8 s1
 have l2:=Z8 s2
 have l3:=Z8 s3
 unfold Vh Xx Vq Qj
 rw [Z5 (by rw [List.length_nil];omega),Option.bind_some,Z5 (by rw [List.length_nil];omega),Option.bind_some,Z5 (by rw [List.length_nil];omega),Option.bind_some]
 simp only [List.nil_append]
 refine Y3 (l:=ZT.Instances d) (fun k=>((k:Int),(ZT.Instances d,(k:Int)),())) (fun k x hx hk=>?_) ?_
 ·have hx2:=J4 (ZW.Yh x) (Z8 (Zi3 (Jp s1 hx)).2)
  simp only [Qf,show (k:Int)<((ZT.Instances d).length:Int) by omega,if_true,Yd,hx,Option.bind_some,Int.le_refl,hx2,Z5 trivial,Vm (show k≤1048576 by omega),Int.toNat_natCast]
  rw [show List.set (ZT.Instances d) k (ZW.Name x,ZW.Cell x,ZW.Yh x,())=ZT.Instances d from Zam hx]
  rfl
 ·simp only [Qf,Int.lt_irrefl,if_false,Z5 trivial]
theorem Zel (l:List Yb) (hl:sm (.sl Xc) l):JX l=some l:=by
 have h1:=Z8 hl
 unfold JX
 have:=Y3 (l:=l) (fun k=>(l.take k,(k:Int),())) (step:=fun v=>Vy l v.1 v.2.1) (good:=l) (fun k x hx hk=>by
  have hs:sm Xc x:=Jp hl hx
  have e1:=J4 (Yb.Ze5 x) (Z8 (t:=.int .i64) hs.1)
  have e2:=J4 (Yb.Loads x) (Z8 (t:=.int .i64) hs.2.1)
  have e3:=J4 (Yb.Values x) (Z8 (t:=.int .i64) hs.2.2.1)
  have hg:((l.take k).length+[(Yb.Ze5 x,Yb.Loads x,Yb.Values x,())].length)*72≤140737488355328:=by rw [List.length_take,List.length_singleton];omega
  simp only [Vy,show (k:Int)<(l.length:Int) by omega,if_true,Yd,hx,Option.bind_some,e1,e2,e3,Z5 hg,Vm (show k≤1048576 by omega)]
  rw [Y7 hx]) (by
  simp only [Vy,Int.lt_irrefl,if_false,List.take_length])
 simpa using this
theorem Zhc (a:Z7) (ha:sm Y9 a):Vk a=some a:=by
 have hc:=Zmw ha
 have h1:=Z8 hc
 unfold Vk
 have:=Y3 (l:=Z7.Cells a) (fun k=>((k:Int),(Z7.Cells a).take k,())) (step:=fun v=>XC a v.1 v.2.1) (good:=a) (fun k x hx hk=>by
  have hs:sm XZ x:=Jp hc hx
  have p1:sm (.sl Zcb) (Z4.YV x):=hs.2.2.1
  have p2:sm (.sl Zdz) (Z4.JB x):=hs.2.2.2.1
  have p3:sm (.sl (.int .i64)) (Z4.Truth x):=hs.2.2.2.2.1
  have l1:=Z8 p1
  have l2:=Z8 p2
  have l3:=Z8 p3
  simp only [XC,show (k:Int)<((Z7.Cells a).length:Int) by omega,if_true,Yd,hx,Option.bind_some]
  unfold Qy Qx
  rw [Z5 (by rw [List.length_nil];omega),Option.bind_some,J4 _ l3,Option.bind_some,Z5 (by rw [List.length_nil];omega),Option.bind_some]
  simp only [List.nil_append]
  have hg:∀ y:Z4,(((Z7.Cells a).take k).length+[y].length)*112≤140737488355328:=fun y=>by rw [List.length_take,List.length_singleton];omega
  refine Y3 (l:=Z4.JB x) (fun j=>((j:Int),(Z4.JB x,(j:Int)),())) (fun j y hy hj=>?_) ?_
  ·obtain ⟨q1,q2⟩:=ZsV (Jp p2 hy)
   simp only [Qg,show (j:Int)<((Z4.JB x).length:Int) by omega,if_true,Yd,hy,Option.bind_some,Int.le_refl,Zel _ q1,Zel _ q2,Z5 trivial,Vm (show j≤1048576 by omega),Int.toNat_natCast]
   rw [show List.set (Z4.JB x) j (Yi.Kind y,Yi.From y,Yi.To y,Yi.Zbn y,Yi.Delay y,Yi.Zhn y,())=Z4.JB x from Zam hy]
   rfl
  ·simp only [Qg,Int.lt_irrefl,if_false,Z5 trivial,Z5 (hg _),Vm (show k≤1048576 by omega)]
   rw [Y7 hx]) (by
  simp only [XC,Int.lt_irrefl,if_false,List.take_length])
 simpa using this
theorem ZhQ (b:ZU) (hb:sm Xg b):Zbx b=some b:=by
 obtain ⟨b1,b2,b3⟩:=Zah hb
 have h1:=Z8 b3
 unfold Zbx
 rw [Zhc _ b1,Option.bind_some,Zg9 _ b2,Option.bind_some]
 have:=Y3 (l:=ZU.Ye b) (fun k=>((k:Int),(ZU.Ye b).take k,())) (step:=fun v=>Vw b (ZU.Library b) (ZU.Design b) v.1 v.2.1) (good:=b) (fun k x hx hk=>by
  have hg:(((ZU.Ye b).take k).length+[x].length)*96≤140737488355328:=by rw [List.length_take,List.length_singleton];omega
  simp only [Vw,show (k:Int)<((ZU.Ye b).length:Int) by omega,if_true,Yd,hx,Option.bind_some,ZeH x (Jp b3 hx),Z5 hg,Vm (show k≤1048576 by omega)]
  rw [Y7 hx]) (by
  simp only [Vw,Int.lt_irrefl,if_false,List.take_length])
 simpa using this
end Go.Proofs.YtdabmnfkcnkkbaaGreatDoor
/-
  Plain laws: the nodes of all sinks, by key (program) and by place (reference).
-/
namespace Go.Proofs.YtdabmnfkcnkkbaaGreatDoor
set_option linter.unusedVariables false
set_option linter.unusedSimpArgs false
open Go Go.Sx
theorem ZtN {pl:List Pl} {k:Nat} {p:Pl} (hp:pl[k]?=some p) (h2:p.2.2.2.1=false):nth pl p.2.2.1 (k+1)=nth pl p.2.2.1 k+1:=by
 unfold nth
 rw [ZfD hp,ZgK rfl h2,List.length_append,List.length_singleton]
theorem Ztf {pl:List Pl} {net:Int} {k:Nat} {p:Pl} (hp:pl[k]?=some p) (h:¬(p.2.2.1=net∧p.2.2.2.1=false)):nth pl net (k+1)=nth pl net k:=by
 unfold nth
 rw [ZfD hp,ZgJ h,List.append_nil]
def seen (pl:List Pl) (n k:Nat):List Int:=(List.range n).map (fun (v:Nat)=>((nth pl (v:Int) k:Nat):Int))
theorem ZkN {pl:List Pl} {n k v:Nat} (hv:v<n):(seen pl n k)[v]?=some ((nth pl (v:Int) k:Nat):Int):=by
 unfold seen
 rw [List.getElem?_map,List.getElem?_range hv];rfl
theorem ZrH (pl:List Pl) (n:Nat):List.replicate n (0:Int)=seen pl n 0:=by
 apply List.ext_getElem?
 intro v
 by_cases hv:v<n
 ·rw [ZkN hv,List.getElem?_replicate,if_pos hv]
  unfold nth
  simp [cat]
 ·rw [List.getElem?_eq_none (by simp;omega),List.getElem?_eq_none (by unfold seen;simp;omega)]
theorem ZsU {pl:List Pl} {n k:Nat} {p:Pl} (hp:pl[k]?=some p) (h2:p.2.2.2.1=false) (h0:0≤p.2.2.1) (h1:p.2.2.1<(n:Int)):(seen pl n k).set p.2.2.1.toNat (((nth pl p.2.2.1 k+1:Nat):Int))=seen pl n (k+1):=by
 apply List.ext_getElem?
 intro v
 by_cases hv:v<n
 ·rw [List.getElem?_set,ZkN hv,ZkN hv]
  split
  ·rename_i e
   rw [if_pos (by unfold seen;simp;omega)]
   subst e
   rw [show ((p.2.2.1.toNat:Nat):Int)=p.2.2.1 by omega,ZtN hp h2]
  ·rename_i e
   rw [Ztf hp (fun q=>e (by have:=q.1;omega))]
 ·rw [List.getElem?_eq_none (by unfold seen;simp;omega),List.getElem?_eq_none (by unfold seen;simp;omega)]
theorem ZtS {pl:List Pl} {n k:Nat} {p:Pl} (hp:pl[k]?=some p) (h2:p.2.2.2.1=true):seen pl n (k+1)=seen pl n k:=by
 unfold seen
 apply List.map_congr_left
 intro v _
 rw [Ztf hp (fun q=>by rw [h2] at q;cases q.2)]
theorem ZoZ {b:ZU} (h:Zap b) {k:Nat} {p:Pl} (hp:(places (ZU.Design b))[k]?=some p) (h2:p.2.2.2.1=false) :
  ∃ w,atI (ZU.Ye b) p.2.2.1=some w∧(ZU.Ye b)[p.2.2.1.toNat]?=some w∧atI (Z9.Ze4 w) ((nth (places (ZU.Design b)) p.2.2.1 k:Nat):Int)=some (Xo b k)∧Zar w ((sinks (ZU.Design b) p.2.2.1).length:Int):=by
 have hn:=Jm h.ok.1 (List.mem_of_getElem? hp)
 obtain ⟨w,hw1,hw2,hw3⟩:=ZjW h hn
 have hlt:=Zru hp rfl h2
 have hs:=hw3.2.2.2.1
 have hlt2:nth (places (ZU.Design b)) p.2.2.1 k<(Z9.Ze4 w).length:=by
  have:(sinks (ZU.Design b) p.2.2.1).length=(cat (JO p.2.2.1) 0 (places (ZU.Design b))).length:=rfl
  omega
 refine ⟨w,hw2,hw1,?_,hw3⟩
 rw [Yd]
 have e:Xo b k=((Z9.Ze4 w)[nth (places (ZU.Design b)) p.2.2.1 k]?).getD 0:=by
  unfold Xo
  simp only [hp,h2,hw1]
  rfl
 rw [e,List.getElem?_eq_getElem hlt2]
 rfl
theorem Zeo {b:ZU} (h:Zap b):QO b=some (JN (places (ZU.Design b)) (Xo b) (places (ZU.Design b)).length):=by
 have hf:=h.ok.1.few
 have hpl:=Qn hf
 have h30:=h.ok.1.2.1.2.1
 have hwn:=h.ok.2.1
 have hwl:(ZU.Ye b).length≤1048576:=Z8 (Zah h.sm).2.2
 unfold QO
 rw [Z5 (by omega),Z5 (by omega),Z5 (by omega),Z5 (by omega),YO _ hf,Option.bind_some,Int.toNat_natCast,ZrH (places (ZU.Design b))]
 refine Y3 (l:=places (ZU.Design b)) (fun k=>((k:Int),JN (places (ZU.Design b)) (Xo b) k,seen (places (ZU.Design b)) (ZU.Ye b).length k,())) (fun k p hp hk=>?_) ?_
 ·simp only [Jc,show (k:Int)<((places (ZU.Design b)).length:Int) by omega,if_true,Yd,hp,Option.bind_some,Vm (show k≤1048576 by omega)]
  have e1:Yw.drives p=p.2.2.2.1:=rfl
  have e2:Yw.net p=p.2.2.1:=rfl
  by_cases h2:p.2.2.2.1=true
  ·rw [e1,if_pos h2,Zj7 hp h2,ZtS hp h2]
  ·have h2':p.2.2.2.1=false:=by simpa using h2
   obtain ⟨w,hw1,hw2,hw3,hw4⟩:=ZoZ h hp h2'
   have hn:=Jm h.ok.1 (List.mem_of_getElem? hp)
   have hv:p.2.2.1<((ZU.Ye b).length:Int):=by have:=hn.2;omega
   have hs:atI (seen (places (ZU.Design b)) (ZU.Ye b).length k) p.2.2.1=some ((nth (places (ZU.Design b)) p.2.2.1 k:Nat):Int):=by
    refine Qd hn.1 ?_
    rw [ZkN (by have:=hn.1;omega),show ((p.2.2.1.toNat:Nat):Int)=p.2.2.1 by have:=hn.1;omega]
   have hlt:=Zru hp rfl h2'
   have hlc:=Zew p.2.2.1 (places (ZU.Design b)) 0
   rw [e1,if_neg h2,e2,hw1,Option.bind_some,hs,Option.bind_some,hw3,Option.bind_some,Vm (show nth (places (ZU.Design b)) p.2.2.1 k≤1048576 by omega),ZsU hp h2' hn.1 hv,ZlF hp h2]
   rfl
 ·simp only [Jc,Int.lt_irrefl,if_false]
end Go.Proofs.YtdabmnfkcnkkbaaGreatDoor
/-
  Plain laws: the reference's nodes by place.
-/
namespace Go.Proofs.YtdabmnfkcnkkbaaGreatDoor
set_option linter.unusedVariables false
set_option linter.unusedSimpArgs false
open Go Go.Sx
theorem ZpQ {pl:List Pl} {net:Int}:∀ (n:Nat),n≤pl.length→∀ (i:Nat) (x:Int),(cat (JO net) 0 (pl.take n))[i]?=some x→
  ∃ (k:Nat) (p:Pl),k<n∧pl[k]?=some p∧x=(k:Int)∧p.2.2.1=net∧p.2.2.2.1=false∧nth pl net k=i
 | 0,_,i,x,h=>by simp [cat] at h
 | n+1,hn,i,x,h=>by
  have hp:pl[n]?=some pl[n]:=List.getElem?_eq_getElem (by omega)
  generalize pl[n]=p at hp
  rw [ZfD hp] at h
  by_cases hi:i<(cat (JO net) 0 (pl.take n)).length
  ·rw [List.getElem?_append_left hi] at h
   obtain ⟨k,q,a,r⟩:=ZpQ n (by omega) i x h
   exact ⟨k,q,by omega,r⟩
  ·rw [List.getElem?_append_right (by omega)] at h
   by_cases hs:p.2.2.1=net∧p.2.2.2.1=false
   ·rw [ZgK hs.1 hs.2] at h
    have h0:=(List.getElem?_eq_some_iff.1 h).1
    rw [List.length_singleton] at h0
    rw [show i-(cat (JO net) 0 (pl.take n)).length=0 by omega] at h
    injection h with h
    exact ⟨n,p,by omega,hp,h.symm,hs.1,hs.2,by unfold nth;omega⟩
   ·rw [ZgJ hs] at h
    cases h
theorem Znx {pl:List Pl} {net:Int} {i:Nat} {x:Int} (h:(cat (JO net) 0 pl)[i]?=some x) :
  ∃ (k:Nat) (p:Pl),pl[k]?=some p∧x=(k:Int)∧p.2.2.1=net∧p.2.2.2.1=false∧nth pl net k=i:=by
 obtain ⟨k,p,_,r⟩:=ZpQ (pl:=pl) (net:=net) pl.length (Nat.le_refl _) i x (by rw [List.take_length];exact h)
 exact ⟨k,p,r⟩
def filled (b:ZU) (P:Nat→Pl→Bool):List Int:=cat (fun k p=>[if P k p=true then Xo b k else 0]) 0 (places (ZU.Design b))
theorem ZaQ (b:ZU) (P:Nat→Pl→Bool) (k:Nat):(filled b P)[k]?=((places (ZU.Design b))[k]?).map (fun p=>if P k p=true then Xo b k else 0):=by
 unfold filled
 rw [Zas,Nat.zero_add]
theorem Zjf (b:ZU) (P:Nat→Pl→Bool):(filled b P).length=(places (ZU.Design b)).length:=VY _ _
theorem Zj2 {b:ZU} {P Q:Nat→Pl→Bool} (h:∀ (k:Nat) (p:Pl),(places (ZU.Design b))[k]?=some p→P k p=Q k p):filled b P=filled b Q:=by
 apply List.ext_getElem?
 intro k
 rw [ZaQ,ZaQ]
 cases hp:(places (ZU.Design b))[k]? with
 | none=>rfl
 | some p=>simp only [Option.map_some,h k p hp]
def ZsP (v:Nat) (k:Nat) (p:Pl):Bool:=decide (p.2.2.1<(v:Int))&&!p.2.2.2.1
def pIn (b:ZU) (v i:Nat) (k:Nat) (p:Pl):Bool:=!p.2.2.2.1&&(decide (p.2.2.1<(v:Int))||(decide (p.2.2.1=(v:Int))&&decide (nth (places (ZU.Design b)) (v:Int) k<i)))
def Jv (b:ZU):List Int:=filled b (fun _ _=>true)
theorem ZgE {b:ZU} {k:Nat} (hk:k<(places (ZU.Design b)).length):(Jv b)[k]?=some (Xo b k):=by
 unfold Jv
 rw [ZaQ,List.getElem?_eq_getElem hk]
 rfl
theorem Jl (b:ZU):(Jv b).length=(places (ZU.Design b)).length:=Zjf _ _
theorem ZdH {b:ZU} (h:Zap b):Za7 b=some (Jv b):=by
 have hf:=h.ok.1.few
 have hpl:=Qn hf
 have h30:=h.ok.1.2.1.2.1
 have hwn:=h.ok.2.1
 have hwl:(ZU.Ye b).length≤1048576:=Z8 (Zah h.sm).2.2
 have first:List.replicate (places (ZU.Design b)).length (0:Int)=filled b (ZsP 0):=by
  apply List.ext_getElem?
  intro k
  rw [ZaQ,List.getElem?_replicate]
  split
  ·rename_i hk
   have hp:=List.getElem?_eq_getElem hk
   rw [hp]
   have hn:=(Jm h.ok.1 (List.mem_of_getElem? hp)).1
   rw [Option.map_some,if_neg]
   unfold ZsP
   simp only [Bool.and_eq_true,decide_eq_true_eq,not_and]
   intro q;omega
  ·rw [List.getElem?_eq_none (by omega)];rfl
 have last:filled b (ZsP (ZU.Ye b).length)=Jv b:=by
  apply List.ext_getElem?
  intro k
  unfold Jv
  rw [ZaQ,ZaQ]
  cases hp:(places (ZU.Design b))[k]? with
  | none=>rfl
  | some p =>
   have hn:=(Jm h.ok.1 (List.mem_of_getElem? hp)).2
   simp only [Option.map_some,if_true]
   by_cases h2:p.2.2.2.1=true
   ·have:Xo b k=0:=by unfold Xo;simp only [hp,h2,if_true]
    simp only [this,ite_self]
   ·rw [if_pos]
    unfold ZsP
    simp only [Bool.and_eq_true,decide_eq_true_eq,Bool.not_eq_true']
    exact ⟨by omega,by simpa using h2⟩
 unfold Za7
 rw [XJ _ hf,Option.bind_some,Z5 (by omega),Z5 (by omega),Z5 (by omega),Z5 (by omega),Int.toNat_natCast,first]
 refine Y3 (l:=ZU.Ye b) (fun v=>((v:Int),filled b (ZsP v),())) (fun v w hw hv=>?_) ?_
 ·simp only [Zb1,show (v:Int)<((ZU.Ye b).length:Int) by omega,if_true,VI _ _ hf,Option.bind_some]
  have e0:filled b (ZsP v)=filled b (pIn b v 0):=Zj2 fun k p _=>by unfold ZsP pIn;simp [Bool.and_comm]
  have e1:filled b (pIn b v (sinks (ZU.Design b) (v:Int)).length)=filled b (ZsP (v+1)):=Zj2 fun k p hp=>by
   unfold ZsP pIn
   by_cases h2:p.2.2.2.1=true
   ·simp [h2]
   ·have h2':p.2.2.2.1=false:=by simpa using h2
    rw [h2',Bool.not_false,Bool.true_and,Bool.and_true]
    by_cases hq:p.2.2.1=(v:Int)
    ·have hlt:nth (places (ZU.Design b)) (v:Int) k<(sinks (ZU.Design b) (v:Int)).length:=Zru hp hq h2'
     rw [decide_eq_true hlt,decide_eq_true hq,decide_eq_true (show p.2.2.1<((v+1:Nat):Int) by omega)]
     simp
    ·rw [decide_eq_false hq,Bool.false_and,Bool.or_false]
     exact decide_eq_decide.2 (by omega)
  rw [e0]
  refine Y3 (l:=sinks (ZU.Design b) (v:Int)) (fun i=>((i:Int),filled b (pIn b v i),())) (fun i x hx hi=>?_) ?_
  ·obtain ⟨k,p,hp,ex,hn,h2,hnth⟩:=Znx (pl:=places (ZU.Design b)) hx
   obtain ⟨w',hw1,hw2,hw3,hw4⟩:=ZoZ h hp h2
   have hk:=(List.getElem?_eq_some_iff.1 hp).1
   have hlc:=Zew (v:Int) (places (ZU.Design b)) 0
   have hlc2:(sinks (ZU.Design b) (v:Int)).length≤(places (ZU.Design b)).length:=hlc
   rw [hn,hnth] at hw3
   rw [hn] at hw1
   have hfk:(filled b (pIn b v i))[k]?=some ((filled b (pIn b v i))[k]'(by rw [Zjf];exact hk)):=List.getElem?_eq_getElem _
   simp only [Zb0,show (i:Int)<((sinks (ZU.Design b) (v:Int)).length:Int) by omega,if_true,Yd,hx,Option.bind_some,←Yd (ZU.Ye b),hw1,←Yd (Z9.Ze4 w'),hw3,Vm (show i≤1048576 by omega)]
   subst ex
   rw [Yd,hfk,Option.bind_some,Int.toNat_natCast]
   have:List.set (filled b (pIn b v i)) k (Xo b k)=filled b (pIn b v (i+1)):=by
    apply List.ext_getElem?
    intro j
    rw [List.getElem?_set,Zjf]
    split
    ·rename_i e
     subst e
     rw [ZaQ,hp,Option.map_some,if_pos]
     unfold pIn
     rw [h2,hnth]
     simp [hn]
    ·rename_i e
     rw [ZaQ,ZaQ]
     cases hq:(places (ZU.Design b))[j]? with
     | none=>rfl
     | some q =>
      have:pIn b v i j q=pIn b v (i+1) j q:=by
       unfold pIn
       by_cases h3:q.2.2.2.1=true
       ·simp [h3]
       ·have h3':q.2.2.2.1=false:=by simpa using h3
        by_cases hqn:q.2.2.1=(v:Int)
        ·have hne:nth (places (ZU.Design b)) (v:Int) j≠i:=by
          intro hh
          have h4:=Zi2 hq hqn h3'
          rw [hh] at h4
          have h5:(cat (JO (v:Int)) 0 (places (ZU.Design b)))[i]?=some (k:Int):=hx
          rw [h5] at h4
          injection h4 with h4
          omega
         rw [show decide (nth (places (ZU.Design b)) (v:Int) j<i)=decide (nth (places (ZU.Design b)) (v:Int) j<i+1) from decide_eq_decide.2 (by omega)]
        ·rw [decide_eq_false hqn,Bool.false_and,Bool.false_and]
      rw [Option.map_some,Option.map_some,this]
   rw [this]
  ·simp only [Zb0,Int.lt_irrefl,if_false,Vm (show v≤1048576 by omega),e1]
 ·simp only [Zb1,Int.lt_irrefl,if_false,last]
end Go.Proofs.YtdabmnfkcnkkbaaGreatDoor
/-
  Plain laws: sinks put in anew, a place put on another net, a buffer taken away.
-/
namespace Go.Proofs.YtdabmnfkcnkkbaaGreatDoor
set_option linter.unusedVariables false
set_option linter.unusedSimpArgs false
open Go Go.Sx
def wip (ws:List Z9) (k:Nat):List Z9:=cat (fun j w=>[if j<k then Zc1 w [] else w]) 0 ws
theorem ZjV (ws:List Z9) (k v:Nat):(wip ws k)[v]?=(ws[v]?).map (fun w=>if v<k then Zc1 w [] else w):=by
 unfold wip
 rw [Zas,Nat.zero_add]
theorem Zun (ws:List Z9) (k:Nat):(wip ws k).length=ws.length:=VY _ _
theorem Zs2 (ws:List Z9):wip ws 0=ws:=by
 apply List.ext_getElem?
 intro v
 rw [ZjV]
 simp
theorem Zum (pl:List Pl) (ws:List Z9) (nd:Nat→Int):wip ws ws.length=ZeA pl ws nd 0:=by
 apply List.ext_getElem?
 intro v
 unfold ZeA
 rw [ZjV,ZcG]
 cases hv:ws[v]? with
 | none=>rfl
 | some w =>
  have:=(List.getElem?_eq_some_iff.1 hv).1
  simp only [Option.map_some,if_pos this,List.take_zero,cat,List.map_nil]
theorem Zs1 {ws:List Z9} {k:Nat} {w:Z9} (hw:ws[k]?=some w):(wip ws k)[k]?=some w∧(wip ws k).set k (Zc1 w [])=wip ws (k+1):=by
 constructor
 ·rw [ZjV,hw];simp
 ·apply List.ext_getElem?
  intro v
  rw [List.getElem?_set,Zun]
  split
  ·rename_i e
   subst e
   rw [if_pos (List.getElem?_eq_some_iff.1 hw).1,ZjV,hw,Option.map_some,if_pos (by omega)]
  ·rw [ZjV,ZjV]
   congr 1
   funext w'
   by_cases h:v<k
   ·rw [if_pos h,if_pos (by omega)]
   ·rw [if_neg h,if_neg (by omega)]
theorem Zem {b:ZU} {nodes:ZhI} {nd:Nat→Int} (hf:Few (ZU.Design b)) (hm:Maps nodes (places (ZU.Design b)) nd) (hn:Zhj (places (ZU.Design b)) (ZU.Ye b).length) (hw:(ZU.Ye b).length≤1048576) :
  Qe b nodes=some (ZU.Library b,ZU.Design b,wired (places (ZU.Design b)) (ZU.Ye b) nd,()):=by
 have hpl:=Qn hf
 unfold Qe
 have:=Y3 (l:=ZU.Ye b) (fun k=>((k:Int),wip (ZU.Ye b) k,())) (step:=fun v=>QN b nodes v.1 v.2.1) (good:=(ZU.Library b,ZU.Design b,wired (places (ZU.Design b)) (ZU.Ye b) nd,())) (fun k w hk hlt=>by
  obtain ⟨a1,a2⟩:=Zs1 hk
  simp only [QN,show (k:Int)<((ZU.Ye b).length:Int) by omega,if_true,Yd,a1,Option.bind_some,Vm (show k≤1048576 by omega),Int.toNat_natCast]
  rw [←a2]
  rfl) (by
  simp only [QN,Int.lt_irrefl,if_false,YO _ hf,Option.bind_some,Zum (places (ZU.Design b)) (ZU.Ye b) nd]
  refine Y3 (l:=places (ZU.Design b)) (fun k=>((k:Int),ZeA (places (ZU.Design b)) (ZU.Ye b) nd k,())) (fun k p hp hk=>?_) ?_
  ·simp only [Jb,show (k:Int)<((places (ZU.Design b)).length:Int) by omega,if_true,Yd,hp,Option.bind_some,Vm (show k≤1048576 by omega)]
   have e1:Yw.drives p=p.2.2.2.1:=rfl
   have e2:Yw.net p=p.2.2.1:=rfl
   have e3:ZgY ZaL (Ty.int IntKind.i64) nodes (Yw.instance p,Yw.pin p,())=ZgY Key (.int .i64) nodes (Zpv p):=rfl
   by_cases h2:p.2.2.2.1=true
   ·rw [e1,if_pos h2,Zov hp h2]
   ·have h2':p.2.2.2.1=false:=by simpa using h2
    obtain ⟨h0,h1⟩:=hn p (List.mem_of_getElem? hp) h2'
    have hwk:(ZU.Ye b)[p.2.2.1.toNat]?=some ((ZU.Ye b)[p.2.2.1.toNat]'(by omega)):=List.getElem?_eq_getElem (by omega)
    obtain ⟨w1,w2⟩:=Zow (nd:=nd) hp h2' h0 hwk
    have hl:=Zew p.2.2.1 ((places (ZU.Design b)).take k) 0
    rw [e1,if_neg h2,e2,Qd h0 w1,Option.bind_some,e3,hm k p hp h2',Z5 (by
     show ((List.map _ _).length+1)*8≤_
     rw [List.length_map]
     rw [List.length_take] at hl
     omega),←w2]
    rfl
  ·simp only [Jb,Int.lt_irrefl,if_false]
   unfold ZeA
   rw [List.take_length])
 rw [Zs2] at this
 exact this
theorem Ze9 {b:ZU} {k:Nat} {p:Pl} (hp:(places (ZU.Design b))[k]?=some p) (n:Int):Vg b (p.1,p.2.1,()) n=some (ZU.Library b,conn (ZU.Design b) p.1 p.2.1 n,ZU.Ye b,()):=by
 unfold Vg conn
 rcases Vp hp with ⟨i,j,x,m,hx,hn,e,rfl⟩ | ⟨j,q,hq,e,rfl⟩
 ·have c:¬((i:Int)<0):=by omega
  simp only [ZcH,VB.instance,VB.pin,if_neg c,Yd,hx,Option.bind_some,Int.toNat_natCast]
  have hn2:x.2.2.1[j]?=some m:=hn
  rw [hn2]
  rfl
 ·have c:((-1:Int)<0):=by omega
  simp only [VB.instance,VB.pin,if_pos c,Yd,hq,Option.bind_some,Int.toNat_natCast]
  rfl
theorem ZiS {d:ZT} (hn:0<(ZT.Instances d).length) {p:Pl} (h:p∈places (XQ d)):p∈places d:=by
 have hx:(ZT.Instances d)[(ZT.Instances d).length-1]?=some (ZT.Instances d)[(ZT.Instances d).length-1]:=List.getElem?_eq_getElem (by omega)
 rw [Zg1 (s:=[]) hn hx,Zea]
 unfold places at h
 rcases List.mem_append.1 h with h | h
 ·exact List.mem_append_left _ (List.mem_append_left _ h)
 ·exact List.mem_append_right _ h
theorem Zig.sink {b:ZU} (h:Zap b) (hL:Zig b):∃ (k:Nat) (p:Pl),sinks (ZU.Design b) (((ZT.Yh (ZU.Design b)).length:Int)-1)=[(k:Int)]∧(places (ZU.Design b))[k]?=some p∧p.2.2.1=((ZT.Yh (ZU.Design b)).length:Int)-1∧p.2.2.2.1=false∧p.1≠((ZT.Instances (ZU.Design b)).length:Int)-1:=by
 obtain ⟨x,c,w,m,hn,hx,hc,hk1,hk2,hl2,hm,hl,hne,hnm,hw,hs1,hs2,hp1,hc0⟩:=hL
 match hs:sinks (ZU.Design b) (((ZT.Yh (ZU.Design b)).length:Int)-1),hs2 with
 | [v],_ =>
  obtain ⟨k,p,hp,e,h1,h2,_⟩:=Znx (pl:=places (ZU.Design b)) (net:=((ZT.Yh (ZU.Design b)).length:Int)-1) (i:=0) (x:=v) (by
   show (sinks (ZU.Design b) (((ZT.Yh (ZU.Design b)).length:Int)-1))[0]?=some v
   rw [hs];rfl)
  subst e
  refine ⟨k,p,rfl,hp,h1,h2,fun q=>?_⟩
  rcases Vp hp with ⟨i,j,y,n,hy,hnj,_,rfl⟩ | ⟨j,y,_,_,rfl⟩
  ·simp only [ZcH] at q h1 h2
   have ei:i=(ZT.Instances (ZU.Design b)).length-1:=by omega
   rw [ei,hx] at hy
   injection hy with hy
   subst hy
   have hj:=(List.getElem?_eq_some_iff.1 hnj).1
   rw [hl2] at h2 hj
   have:j=0∨j=1:=by omega
   rcases this with rfl | rfl
   ·rw [show atI (ZW.Yh x) 0=(ZW.Yh x)[0]? from rfl,hnj] at hm
    injection hm with hm
    exact hne (hm.symm.trans h1)
   ·exact absurd h2 (by simp only [decide_eq_false_iff_not,Classical.not_not];rw [V4 (by omega) (by omega)];rfl)
  ·simp only at q
   omega
end Go.Proofs.YtdabmnfkcnkkbaaGreatDoor
/-
  Plain laws: a buffer taken away; inverse edits.
-/
namespace Go.Proofs.YtdabmnfkcnkkbaaGreatDoor
set_option linter.unusedVariables false
set_option linter.unusedSimpArgs false
open Go Go.Sx
theorem Zrp {b:ZU} (h:Zap b) {k:Nat} {p:Pl} {m:Int} (hn:0<(ZT.Instances (ZU.Design b)).length) (hs:sinks (ZU.Design b) (((ZT.Yh (ZU.Design b)).length:Int)-1)=[(k:Int)]) (hp:(places (ZU.Design b))[k]?=some p) (h0:0≤m) (h1:m<((ZT.Yh (ZU.Design b)).length:Int)-1) :
  Zhj (places (unD b p m)) ((ZU.Ye b).length-1):=by
 have hwn:=h.ok.2.1
 have hD:Zhj (places (conn (ZU.Design b) p.1 p.2.1 m)) ((ZU.Ye b).length-1):=by
  rw [X3 hp]
  intro q hq hd
  obtain ⟨j,hj⟩:=List.getElem?_of_mem hq
  rw [List.getElem?_set] at hj
  split at hj
  ·split at hj
   ·injection hj with hj
    subst hj
    exact ⟨h0,by show m<_;omega⟩
   ·cases hj
  ·rename_i e
   have hnet:=Jm h.ok.1 (List.mem_of_getElem? hj)
   refine ⟨hnet.1,?_⟩
   by_cases hq2:q.2.2.1=((ZT.Yh (ZU.Design b)).length:Int)-1
   ·have h3:=Zi2 hj hq2 hd
    have h4:(sinks (ZU.Design b) (((ZT.Yh (ZU.Design b)).length:Int)-1))[nth (places (ZU.Design b)) (((ZT.Yh (ZU.Design b)).length:Int)-1) j]?=some (j:Int):=h3
    rw [hs] at h4
    have h5:=List.mem_of_getElem? h4
    rw [List.mem_singleton] at h5
    exact absurd (by omega) e
   ·have:=hnet.2
    omega
 intro q hq hd
 exact hD q (ZiS (by rw [Xu];exact hn) hq) hd
theorem Zgw {d:ZT} {x:ZW} (hn:0<(ZT.Instances d).length) (hx:(ZT.Instances d)[(ZT.Instances d).length-1]?=some x) (h2:(ZW.Yh x).length=2):YZ (XQ d)+2=YZ d:=by
 have h1:=ZoI hn hx
 unfold YZ
 rw [h1,ZcN,List.length_append]
 simp only [cat,List.append_nil,QB,h2]
theorem ZmO {d:ZT} {x:ZW} (hn:0<(ZT.Instances d).length) (hx:(ZT.Instances d)[(ZT.Instances d).length-1]?=some x) (h2:(ZW.Yh x).length=2):ZdO d ((ZT.Instances d).length-1)=YZ d-2:=by
 have h1:=Zgw hn hx h2
 have:ZdO d ((ZT.Instances d).length-1)=YZ (XQ d):=rfl
 omega
theorem Zkl {b:ZU} (h:Zap b) (hL:Zig b):∃ (k:Nat) (p:Pl) (m v:Int),sinks (ZU.Design b) (((ZT.Yh (ZU.Design b)).length:Int)-1)=[(k:Int)]∧(places (ZU.Design b))[k]?=some p∧p.1≠((ZT.Instances (ZU.Design b)).length:Int)-1∧
  (∀ y,(ZT.Instances (ZU.Design b))[(ZT.Instances (ZU.Design b)).length-1]?=some y→atI (ZW.Yh y) 0=some m)∧v=Xo b (YZ (ZU.Design b)-2)∧
  JE b=some ((p.1,p.2.1,()),(ZU.Library b,unD b p m,wired (places (unD b p m)) ((ZU.Ye b).take ((ZU.Ye b).length-1)) (Zn5 (fun j=>if j=k then v else Xo b j) (YZ (unD b p m))),())):=by
 obtain ⟨k,p,hs,hp,hpn,hpd,hpi⟩:=hL.sink h
 obtain ⟨x,c,w,m,hn,hx,hc,hk1,hk2,hl2,hm,hl,hne,hnm,hw,hs1,hs2,hp1,hc0⟩:=hL
 have hD:=h.ok.1
 have hf:=hD.few
 have hpl:=Qn hf
 have h14:=hf.insts
 have h30:=hD.2.1.2.1
 have hwn:=h.ok.2.1
 obtain ⟨_,_,hnet⟩:=hD.2.2.1 x (List.mem_of_getElem? hx)
 have hm0:(ZW.Yh x)[0]?=some m:=hm
 have hmn:=hnet m (List.mem_of_getElem? hm0)
 have hpos:1≤(ZT.Yh (ZU.Design b)).length:=by have:=hmn.1;have:=hmn.2;omega
 have hmn2:m<((ZT.Yh (ZU.Design b)).length:Int)-1:=by have:=hmn.2;omega
 have hx2:atI (ZT.Instances (ZU.Design b)) (((ZT.Instances (ZU.Design b)).length:Int)-1)=some x:=Qd (by omega) (by rw [←hx];congr 1;omega)
 have t1:Int.toNat (((ZT.Instances (ZU.Design b)).length:Int)-1)=(ZT.Instances (ZU.Design b)).length-1:=by omega
 have t2:Int.toNat (((ZT.Yh (ZU.Design b)).length:Int)-1)=(ZT.Yh (ZU.Design b)).length-1:=by omega
 have t3:Int.toNat (((ZU.Ye b).length:Int)-1)=(ZU.Ye b).length-1:=by omega
 have e:((ZU.Library b,(List.set (ZT.Instances (ZU.Design b)) ((ZT.Instances (ZU.Design b)).length-1) x,(ZU.Design b).snd),b.snd.snd):ZU)=b:=by rw [Zam hx]
 refine ⟨k,p,m,(Option.getD (ZgY Key (Ty.int IntKind.i64) (JN (places (ZU.Design b)) (Xo b) (places (ZU.Design b)).length) ((((ZT.Instances (ZU.Design b)).length:Int)-1),(0:Int),())) (0:Int)),hs,hp,hpi,fun y hy=>by rw [hx] at hy;injection hy with hy;rw [←hy];exact hm,?_,?_⟩
 ·have h5:=ZeX hx hm0
  rw [Nat.add_zero,ZmO hn hx hl2] at h5
  have h6:=ZgZ (ZU.Design b) (Xo b) _ _ h5 (by
   show decide ((0:Int)=IntKind.i64.wrap (((ZW.Yh x).length:Int)-1))=false
   rw [hl2,V4 (by omega) (by omega)]
   decide)
  have h7:Zpv (ZcH ((ZT.Instances (ZU.Design b)).length-1) x 0 m)=((((ZT.Instances (ZU.Design b)).length:Int)-1),(0:Int),()):=by
   show ((((ZT.Instances (ZU.Design b)).length-1:Nat):Int),(0:Int),())=_
   rw [show (((ZT.Instances (ZU.Design b)).length-1:Nat):Int)=((ZT.Instances (ZU.Design b)).length:Int)-1 by omega]
  rw [h7] at h6
  rw [h6]
  rfl
 unfold JE
 rw [Zeo h,Option.bind_some,YO _ hf,Option.bind_some,show Xe (ZT.Yh (ZU.Design b))=some ((ZT.Yh (ZU.Design b)).length:Int) from rfl,Option.bind_some,
  V4 (n:=((ZT.Yh (ZU.Design b)).length:Int)-1) (by omega) (by omega),Zha _ _ hf,Option.bind_some,hs,show atI [(k:Int)] 0=some (k:Int) from rfl,Option.bind_some,Yd,hp,Option.bind_some,
  V4 (n:=((ZT.Instances (ZU.Design b)).length:Int)-1) (by omega) (by omega),hx2,Option.bind_some,show x.snd.snd.fst=ZW.Yh x from rfl,hm,Option.bind_some,t1,e,
  show (Yw.instance p,Yw.pin p,())=(p.1,p.2.1,()) from rfl,Ze9 hp m,Option.bind_some]
 have eD:ZU.Design ((ZU.Library b,conn (ZU.Design b) p.1 p.2.1 m,ZU.Ye b,()):ZU)=conn (ZU.Design b) p.1 p.2.1 m:=rfl
 have eW:ZU.Ye ((ZU.Library b,conn (ZU.Design b) p.1 p.2.1 m,ZU.Ye b,()):ZU)=ZU.Ye b:=rfl
 have eL:ZU.Library ((ZU.Library b,conn (ZU.Design b) p.1 p.2.1 m,ZU.Ye b,()):ZU)=ZU.Library b:=rfl
 rw [eD,eW,eL,QH,V4 (n:=((ZT.Yh (ZU.Design b)).length:Int)-1) (by omega) (by omega),V4 (n:=((ZU.Ye b).length:Int)-1) (by omega) (by omega),t2,t3,
  Z5 (by omega),Z5 (by rw [Xu];omega),Z5 (by omega),Z5 (by omega),Z5 (by omega),Z5 (by omega)]
 simp only [Int.toNat_zero,Nat.sub_zero,List.drop_zero]
 have hB:((ZU.Library b,(List.take ((ZT.Instances (ZU.Design b)).length-1) (ZT.Instances (conn (ZU.Design b) p.1 p.2.1 m)),List.take ((ZT.Yh (ZU.Design b)).length-1) (ZT.Yh (ZU.Design b)),(conn (ZU.Design b) p.1 p.2.1 m).snd.snd),List.take ((ZU.Ye b).length-1) (ZU.Ye b),()):ZU)
   = (ZU.Library b,unD b p m,List.take ((ZU.Ye b).length-1) (ZU.Ye b),()):=by
  unfold unD XQ
  rw [Xu,QH]
 rw [hB]
 have hx3:(ZT.Instances (conn (ZU.Design b) p.1 p.2.1 m))[(ZT.Instances (conn (ZU.Design b) p.1 p.2.1 m)).length-1]?=some ((ZT.Instances (conn (ZU.Design b) p.1 p.2.1 m))[(ZT.Instances (conn (ZU.Design b) p.1 p.2.1 m)).length-1]'(by rw [Xu];omega)):=List.getElem?_eq_getElem _
 generalize (ZT.Instances (conn (ZU.Design b) p.1 p.2.1 m))[(ZT.Instances (conn (ZU.Design b) p.1 p.2.1 m)).length-1]'(by rw [Xu];omega)=x' at hx3
 have hx4:(ZW.Yh x').length=2:=by
  obtain ⟨y,hy,_,_,hyl,_⟩:=Zeg hx3
  rw [Xu,hx] at hy
  injection hy with hy
  rw [hyl,←hy,hl2]
 have hM:=(((ZgZ (ZU.Design b) (Xo b)).put hp (Option.getD (ZgY Key (Ty.int IntKind.i64) (JN (places (ZU.Design b)) (Xo b) (places (ZU.Design b)).length) ((((ZT.Instances (ZU.Design b)).length:Int)-1),(0:Int),())) (0:Int))).set hp m)
 rw [←X3 hp m] at hM
 have hM2:=hM.cut (by rw [Xu];omega) hx3 hx4
 have hlen:(List.take ((ZU.Ye b).length-1) (ZU.Ye b)).length=(ZU.Ye b).length-1:=by rw [List.length_take];omega
 have:=Zem (b:=(ZU.Library b,unD b p m,List.take ((ZU.Ye b).length-1) (ZU.Ye b),())) (hf.conn p.1 p.2.1 m).cut hM2 (by
  show Zhj (places (unD b p m)) (List.take ((ZU.Ye b).length-1) (ZU.Ye b)).length
  rw [hlen]
  exact Zrp h hn hs hp hmn.1 hmn2) (by
  show (List.take ((ZU.Ye b).length-1) (ZU.Ye b)).length≤_
  rw [hlen];omega)
 exact Eq.trans (congrArg (fun o=>Option.bind o fun connect0=>some ((p.1,p.2.1,()),connect0)) this) rfl
end Go.Proofs.YtdabmnfkcnkkbaaGreatDoor
/-
  Plain laws: designs stay valid when a place is put on another net, when a buffer is added or taken away.
-/
namespace Go.Proofs.YtdabmnfkcnkkbaaGreatDoor
set_option linter.unusedVariables false
set_option linter.unusedSimpArgs false
open Go Go.Sx
theorem Zar.put {w:Z9} {s:Int} (h:Zar w s) {l:List Int} (hl:Zgl l 0 (((Z9.Parent w).length:Int)-1)):Zar (Zc1 w l) (l.length:Int) :=
 ⟨h.1,h.2.1,h.2.2.1,rfl,h.2.2.2.2.1,h.2.2.2.2.2.1,h.2.2.2.2.2.2.1,hl⟩
def Fits (pl:List Pl) (ws:List Z9) (nd:Nat→Int):Prop:=∀ (k:Nat) (p:Pl) (w:Z9),pl[k]?=some p→p.2.2.2.1=false→ws[p.2.2.1.toNat]?=some w→0≤nd k∧nd k≤((Z9.Parent w).length:Int)-1
theorem ZnE {pl:List Pl} {ws:List Z9} {nd:Nat→Int} (hw:∀ (v:Nat) (w:Z9),ws[v]?=some w→∃ s,Zar w s) (hf:Fits pl ws nd) :
  Zff (wired pl ws nd) (fun v w=>Zar w ((cat (JO (v:Int)) 0 pl).length:Int)):=by
 intro v w hv
 rw [ZcG] at hv
 cases hx:ws[v]? with
 | none=>rw [hx] at hv;cases hv
 | some y =>
  rw [hx] at hv
  injection hv with hv
  subst hv
  obtain ⟨s,hs⟩:=hw v y hx
  have:=hs.put (l:=(cat (JO (v:Int)) 0 pl).map (fun k=>nd k.toNat)) (fun z hz=>by
   obtain ⟨j,hj,rfl⟩:=List.mem_map.1 hz
   obtain ⟨k,p,rfl,hp,h1,h2⟩:=ZrJ hj
   exact hf k p y hp h2 (by rw [h1];exact hx))
  rw [List.length_map] at this
  exact this
theorem ZkL {b:ZU} (h:Zap b):Fits (places (ZU.Design b)) (ZU.Ye b) (Xo b):=by
 intro k p w hp h2 hw
 obtain ⟨w',_,hw1,hw2,hw3⟩:=ZoZ h hp h2
 rw [hw1] at hw
 injection hw with hw
 subst hw
 rw [Yd] at hw2
 exact hw3.2.2.2.2.2.2.2 _ (List.mem_of_getElem? hw2)
theorem Fits.set {pl:List Pl} {ws:List Z9} {nd:Nat→Int} (h:Fits pl ws nd) {k0:Nat} {p0:Pl} (n v:Int) (hv:∀ w,ws[n.toNat]?=some w→0≤v∧v≤((Z9.Parent w).length:Int)-1) :
  Fits (pl.set k0 (p0.1,p0.2.1,n,p0.2.2.2.1,())) ws (fun j=>if j=k0 then v else nd j):=by
 intro k p w hp h2 hw
 rw [List.getElem?_set] at hp
 split at hp
 ·rename_i e
  subst e
  split at hp
  ·injection hp with hp
   subst hp
   show 0≤(if k0=k0 then v else nd k0)∧(if k0=k0 then v else nd k0)≤_
   rw [if_pos rfl]
   exact hv w hw
  ·cases hp
 ·rename_i e
  show 0≤(if k=k0 then v else nd k)∧(if k=k0 then v else nd k)≤_
  rw [if_neg (fun q=>e q.symm)]
  exact h k p w hp h2 hw
theorem QW.snoc {l:List (List UInt8)} {s:List UInt8} (h:QW l l.length) (h1:JA s=true) (h2:s ∉ l):QW (l++[s]) (l++[s]).length:=by
 intro j t hj ht
 by_cases e:j<l.length
 ·rw [List.getElem?_append_left e] at ht
  obtain ⟨a,b⟩:=h j t e ht
  refine ⟨a,?_⟩
  rw [List.take_append_of_le_length (by omega)]
  exact b
 ·rw [List.length_append,List.length_singleton] at hj
  have e2:j=l.length:=by omega
  subst e2
  rw [List.getElem?_append_right (by omega),Nat.sub_self] at ht
  injection ht with ht
  subst ht
  refine ⟨h1,?_⟩
  rw [List.take_append_of_le_length (Nat.le_refl _),List.take_length]
  exact h2
theorem QW.take {l:List (List UInt8)} (h:QW l l.length) (m:Nat):QW (l.take m) (l.take m).length:=by
 intro j t hj ht
 rw [List.length_take] at hj
 rw [List.getElem?_take,if_pos (by omega)] at ht
 obtain ⟨a,b⟩:=h j t (by omega) ht
 refine ⟨a,?_⟩
 rw [List.take_take,Nat.min_eq_left (by omega)]
 exact b
theorem ZoF (d:ZT) (a b n:Int):Jy (conn d a b n)=Jy d:=by
 unfold conn
 split
 ·rfl
 ·show List.map ZW.Name (match (ZT.Instances d)[a.toNat]? with | some x=>(ZT.Instances d).set a.toNat (ZcJ x b.toNat n) | none=>ZT.Instances d)=List.map ZW.Name (ZT.Instances d)
  split
  ·rename_i x hx
   rw [List.map_set]
   exact Zam (by rw [List.getElem?_map,hx];rfl)
  ·rfl
theorem ZnR (d:ZT) (a b n:Int):Zbf (conn d a b n)=Zbf d:=by
 unfold conn
 split
 ·show List.map Ym.Name (match (ZT.Yo d)[b.toNat]? with | some x=>(ZT.Yo d).set b.toNat (setPort x n) | none=>ZT.Yo d)=List.map Ym.Name (ZT.Yo d)
  split
  ·rename_i x hx
   rw [List.map_set]
   exact Zam (by rw [List.getElem?_map,hx];rfl)
  ·rfl
 ·rfl
theorem ZnS {d:ZT} {a b n:Int} {i:Nat} {y:Ym} (hy:(ZT.Yo (conn d a b n))[i]?=some y):∃ x,(ZT.Yo d)[i]?=some x∧Ym.Name y=Ym.Name x∧Ym.Dir y=Ym.Dir x∧(Ym.Net y=Ym.Net x∨Ym.Net y=n):=by
 unfold conn at hy
 split at hy
 ·have hy:(match (ZT.Yo d)[b.toNat]? with | some x=>(ZT.Yo d).set b.toNat (setPort x n) | none=>ZT.Yo d)[i]?=some y:=hy
  split at hy
  ·rename_i x hx
   rw [List.getElem?_set] at hy
   split at hy
   ·rename_i e
    split at hy
    ·injection hy with hy
     subst hy
     exact ⟨x,by rw [←e];exact hx,rfl,rfl,.inr rfl⟩
    ·cases hy
   ·exact ⟨y,hy,rfl,rfl,.inl rfl⟩
  ·exact ⟨y,hy,rfl,rfl,.inl rfl⟩
 ·exact ⟨y,hy,rfl,rfl,.inl rfl⟩
theorem Zir {α:Type} {f:α→Bool} {y:α} (hy:f y=false):∀ {l:List α} {i:Nat} {x:α},l[i]?=some x→f x=false→(l.set i y).filter f=l.filter f
 | [],i,x,h,_=>by simp at h
 | a::l,0,x,h,hx=>by
  have h:a=x:=by simpa using h
  subst h
  simp [List.set,hx,hy]
 | a::l,i+1,x,h,hx=>by
  have:=Zir hy (l:=l) (i:=i) (by simpa using h) hx
  simp only [List.set_cons_succ,List.filter_cons,this]
theorem ZgV {x:ZW} (h:0<(ZW.Yh x).length):(ZW.Yh x)[(ZW.Yh x).length-1]?=some (XT x):=by
 unfold XT
 rw [List.getLastD_eq_getLast?,←List.getLast?_eq_getElem?]
 cases hN:ZW.Yh x with
 | nil=>rw [hN] at h;simp at h
 | cons y r=>rw [List.getLast?_cons];rfl
theorem Zmf {x:ZW} {j:Nat} {n:Int} (h:j+1≠(ZW.Yh x).length):XT (ZcJ x j n)=XT x:=by
 by_cases h0:0<(ZW.Yh x).length
 ·have h1:=ZgV (x:=ZcJ x j n) (by show 0<(List.set (ZW.Yh x) j n).length;rw [List.length_set];exact h0)
  have h2:(List.set (ZW.Yh x) j n)[(List.set (ZW.Yh x) j n).length-1]?=some (XT (ZcJ x j n)):=h1
  rw [List.length_set,List.getElem?_set,if_neg (by omega),ZgV h0] at h2
  injection h2 with h2
  exact h2.symm
 ·have e:ZW.Yh x=[]:=List.length_eq_zero_iff.1 (by omega)
  unfold XT
  show (List.set (ZW.Yh x) j n).getLastD 0=_
  rw [e];rfl
theorem Zq4 {d:ZT} (hf:Few d) {k:Nat} {p:Pl} (hp:(places d)[k]?=some p) (h2:p.2.2.2.1=false) (n:Int):ZkZ (conn d p.1 p.2.1 n)=ZkZ d:=by
 unfold ZkZ
 rcases Vp hp with ⟨i,j,x,m,hx,hn,e,rfl⟩ | ⟨j,q,hq,e,rfl⟩
 ·have hl:=hf.nets x (List.mem_of_getElem? hx)
  have hj:=(List.getElem?_eq_some_iff.1 hn).1
  have h3:decide ((j:Int)=IntKind.i64.wrap (((ZW.Yh x).length:Int)-1))=false:=h2
  rw [V4 (by omega) (by omega)] at h3
  have h4:¬((j:Int)=((ZW.Yh x).length:Int)-1):=of_decide_eq_false h3
  have c:¬((i:Int)<0):=by omega
  have e1:ZT.Instances (conn d (ZcH i x j m).1 (ZcH i x j m).2.1 n)=(ZT.Instances d).set i (ZcJ x j n):=by
   unfold conn
   show ZT.Instances (if (i:Int)<0 then _ else _)=_
   rw [if_neg c]
   show (match (ZT.Instances d)[(i:Int).toNat]? with | some x=>(ZT.Instances d).set (i:Int).toNat (ZcJ x (j:Int).toNat n) | none=>ZT.Instances d)=_
   simp only [Int.toNat_natCast,hx]
  have e2:ZT.Yo (conn d (ZcH i x j m).1 (ZcH i x j m).2.1 n)=ZT.Yo d:=by
   unfold conn
   show ZT.Yo (if (i:Int)<0 then _ else _)=_
   rw [if_neg c]
  rw [e1,e2,List.map_set,Zmf (by omega),Zam (by rw [List.getElem?_map,hx];rfl)]
 ·have h3:decide (Ym.Dir q=1)=false:=h2
  have e1:ZT.Instances (conn d (-1) (j:Int) n)=ZT.Instances d:=by
   unfold conn
   rw [if_pos (by omega)]
  have e2:ZT.Yo (conn d (-1) (j:Int) n)=(ZT.Yo d).set j (setPort q n):=by
   unfold conn
   rw [if_pos (by omega)]
   show (match (ZT.Yo d)[(j:Int).toNat]? with | some x=>(ZT.Yo d).set (j:Int).toNat (setPort x n) | none=>ZT.Yo d)=_
   simp only [Int.toNat_natCast,hq]
  show (ZT.Instances (conn d (-1) (j:Int) n)).map XT++((ZT.Yo (conn d (-1) (j:Int) n)).filter (fun p=>decide (Ym.Dir p=1))).map Ym.Net=_
  rw [e1,e2,Zir (by exact h3) hq h3]
theorem ZoG {a:Z7} {d:ZT} (h:Qr a d) {k:Nat} {p:Pl} (hp:(places d)[k]?=some p) (h2:p.2.2.2.1=false) {n:Int} (hn:Zab d n):Qr a (conn d p.1 p.2.1 n):=by
 obtain ⟨hl,⟨n1,n2,n3,n4,n5,n6⟩,hi,hq,ho⟩:=h
 have hf:Few d:=Qr.few (a:=a) ⟨hl,⟨n1,n2,n3,n4,n5,n6⟩,hi,hq,ho⟩
 refine ⟨hl,⟨by rw [Xu];exact n1,by rw [QH];exact n2,by rw [Zfj];exact n3,by rw [ZoF];exact n4,by rw [QH];exact n5,by rw [ZnR];exact n6⟩,fun y hy=>?_,fun y hy=>?_,?_⟩
 ·obtain ⟨i,hi2⟩:=List.getElem?_of_mem hy
  obtain ⟨x,hx,_,hc,hlen,_,hm⟩:=Zeg hi2
  obtain ⟨r1,⟨c,r2,r3⟩,r4⟩:=hi x (List.mem_of_getElem? hx)
  refine ⟨by rw [hc];exact r1,⟨c,by rw [hc];exact r2,by rw [hlen];exact r3⟩,fun m hm2=>?_⟩
  unfold Zab
  rw [QH]
  rcases hm m hm2 with q | q
  ·exact r4 m q
  ·rw [q];exact hn
 ·obtain ⟨i,hi2⟩:=List.getElem?_of_mem hy
  obtain ⟨x,hx,_,hd,hm⟩:=ZnS hi2
  obtain ⟨r1,r2⟩:=hq x (List.mem_of_getElem? hx)
  refine ⟨by rw [hd];exact r1,?_⟩
  unfold Zab
  rw [QH]
  rcases hm with q | q
  ·rw [q];exact r2
  ·rw [q];exact hn
 ·unfold Zfg
  rw [QH,Zq4 hf hp h2]
  exact ho
theorem Zpn {a:Z7} {d:ZT} (h:Qr a d):∀ v∈ZkZ d,Zab d v:=by
 have hf:=h.few
 intro v hv
 unfold ZkZ at hv
 rcases List.mem_append.1 hv with hv | hv
 ·obtain ⟨x,hx,rfl⟩:=List.mem_map.1 hv
  have:=hf.nets x hx
  exact ((h.2.2.1 x hx).last h.1 (by omega)).2
 ·obtain ⟨q,hq,rfl⟩:=List.mem_map.1 hv
  exact (h.2.2.2.1 q (List.mem_filter.1 hq).1).2
theorem ZjK {d:ZT}:Zfg d↔∀ v:Nat,v<(ZT.Yh d).length→(ZkZ d).countP (fun x=>decide (x=(v:Int)))=1:=by
 unfold Zfg
 constructor
 ·intro h v hv
  have:=h _ (List.mem_of_getElem? (ZgT (s:=ZkZ d) hv))
  omega
 ·intro h x hx
  obtain ⟨j,hj⟩:=List.getElem?_of_mem hx
  have hlt:=(List.getElem?_eq_some_iff.1 hj).1
  rw [ZfE] at hlt
  rw [ZgT hlt] at hj
  injection hj with hj
  have:=h j hlt
  omega
theorem ZoH {l:List Int} {v:Int} (h:∀ x∈l,x≠v):l.countP (fun x=>decide (x=v))=0:=by
 rw [List.countP_eq_zero]
 intro x hx
 simp [h x hx]
theorem ZuG {a:Z7} {d:ZT} (h:Qr a d) {s:List UInt8} {c m:Int} {cell:Z4} (hs:JA s=true) (h1:s ∉ Jy d) (h2:s ∉ ZT.Yh d) (h13:(ZT.Instances d).length≤13) (h29:(ZT.Yh d).length≤29)
  (hc0:0≤c) (hc1:c≤((Z7.Cells a).length:Int)-1) (hc:(Z7.Cells a)[c.toNat]?=some cell) (hp:(Z4.YV cell).length=2) (hm:Zab d m) :
  Qr a (addInst d (s,c,[m,((ZT.Yh d).length:Int)],()) s):=by
 have hdn:=Zpn h
 obtain ⟨hl,⟨n1,n2,n3,n4,n5,n6⟩,hi,hq,ho⟩:=h
 have eI:ZT.Instances (addInst d (s,c,[m,((ZT.Yh d).length:Int)],()) s)=ZT.Instances d++[(s,c,[m,((ZT.Yh d).length:Int)],())]:=rfl
 have eN:ZT.Yh (addInst d (s,c,[m,((ZT.Yh d).length:Int)],()) s)=ZT.Yh d++[s]:=rfl
 have eP:ZT.Yo (addInst d (s,c,[m,((ZT.Yh d).length:Int)],()) s)=ZT.Yo d:=rfl
 have hnet:∀ n,Zab d n→Zab (addInst d (s,c,[m,((ZT.Yh d).length:Int)],()) s) n:=fun n hn=>by
  unfold Zab at *
  rw [eN,List.length_append,List.length_singleton]
  omega
 refine ⟨hl,⟨by rw [eI,List.length_append,List.length_singleton];omega,by rw [eN,List.length_append,List.length_singleton];omega,n3,?_,by rw [eN];exact n5.snoc hs h2,n6⟩,fun y hy=>?_,fun y hy=>?_,?_⟩
 ·have:Jy (addInst d (s,c,[m,((ZT.Yh d).length:Int)],()) s)=Jy d++[s]:=by
   unfold Jy
   rw [eI,List.map_append]
   rfl
  rw [this]
  exact n4.snoc hs h1
 ·rw [eI] at hy
  rcases List.mem_append.1 hy with hy | hy
  ·obtain ⟨r1,r2,r4⟩:=hi y hy
   exact ⟨r1,r2,fun n hn=>hnet n (r4 n hn)⟩
  ·rw [List.mem_singleton] at hy
   subst hy
   refine ⟨⟨hc0,hc1⟩,⟨cell,hc,by rw [hp];rfl⟩,fun n hn=>?_⟩
   have hn:n∈[m,((ZT.Yh d).length:Int)]:=hn
   rcases List.mem_cons.1 hn with hn | hn
   ·rw [hn];exact hnet m hm
   ·rw [List.mem_singleton] at hn
    subst hn
    unfold Zab
    rw [eN,List.length_append,List.length_singleton]
    omega
 ·obtain ⟨r1,r2⟩:=hq y hy
  exact ⟨r1,hnet _ r2⟩
 ·rw [ZjK] at ho ⊢
  intro v hv
  rw [eN,List.length_append,List.length_singleton] at hv
  have e:ZkZ (addInst d (s,c,[m,((ZT.Yh d).length:Int)],()) s)=(ZT.Instances d).map XT++[((ZT.Yh d).length:Int)]++((ZT.Yo d).filter (fun p=>decide (Ym.Dir p=1))).map Ym.Net:=by
   unfold ZkZ
   rw [eI,eP,List.map_append]
   rfl
  have e2:ZkZ d=(ZT.Instances d).map XT++((ZT.Yo d).filter (fun p=>decide (Ym.Dir p=1))).map Ym.Net:=rfl
  rw [e,List.countP_append,List.countP_append,List.countP_singleton]
  by_cases hvl:v<(ZT.Yh d).length
  ·have:=ho v hvl
   rw [e2,List.countP_append] at this
   rw [if_neg (by simp;omega)]
   omega
  ·have h0:=ZoH (l:=ZkZ d) (v:=(v:Int)) (fun x hx=>by have:=(hdn x hx).2;omega)
   rw [e2,List.countP_append] at h0
   rw [if_pos (by simp;omega)]
   omega
theorem Ztz {d:ZT} (hf:Few d) {p:Pl} (hp:p∈places d) (h2:p.2.2.2.1=true):p.2.2.1∈ZkZ d:=by
 obtain ⟨k,hk⟩:=List.getElem?_of_mem hp
 unfold ZkZ
 rcases Vp hk with ⟨i,j,x,m,hx,hn,e,rfl⟩ | ⟨j,q,hq,e,rfl⟩
 ·have hl:=hf.nets x (List.mem_of_getElem? hx)
  have hj:=(List.getElem?_eq_some_iff.1 hn).1
  have h3:decide ((j:Int)=IntKind.i64.wrap (((ZW.Yh x).length:Int)-1))=true:=h2
  rw [V4 (by omega) (by omega)] at h3
  have h4:(j:Int)=((ZW.Yh x).length:Int)-1:=of_decide_eq_true h3
  refine List.mem_append_left _ (List.mem_map.2 ⟨x,List.mem_of_getElem? hx,?_⟩)
  have h5:=ZgV (x:=x) (by omega)
  rw [show (ZW.Yh x).length-1=j by omega,hn] at h5
  injection h5 with h5
  exact h5.symm
 ·have h3:decide (Ym.Dir q=1)=true:=h2
  exact List.mem_append_right _ (List.mem_map.2 ⟨q,List.mem_filter.2 ⟨List.mem_of_getElem? hq,h3⟩,rfl⟩)
theorem ZuQ {a:Z7} {d:ZT} (h:Qr a d) {x:ZW} (hn:0<(ZT.Instances d).length) (hx:(ZT.Instances d)[(ZT.Instances d).length-1]?=some x) (hlx:XT x=((ZT.Yh d).length:Int)-1)
  (hs:∀ p∈places d,p.2.2.2.1=false→p.2.2.1≠((ZT.Yh d).length:Int)-1):Qr a (XQ d):=by
 have hdn:=Zpn h
 have hf:=h.few
 have hcut:=ZoI hn hx
 obtain ⟨hl,⟨n1,n2,n3,n4,n5,n6⟩,hi,hq,ho⟩:=h
 have hpos:1≤(ZT.Yh d).length:=by
  have:=hdn (XT x) (List.mem_append_left _ (List.mem_map.2 ⟨x,List.mem_of_getElem? hx,rfl⟩))
  unfold Zab at this
  omega
 have eN:(ZT.Yh (XQ d)).length=(ZT.Yh d).length-1:=by
  show (List.take ((ZT.Yh d).length-1) (ZT.Yh d)).length=_
  rw [List.length_take];omega
 have eD:ZkZ d=(ZT.Instances (XQ d)).map XT++[XT x]++((ZT.Yo d).filter (fun p=>decide (Ym.Dir p=1))).map Ym.Net:=by
  unfold ZkZ
  rw [hcut,List.map_append]
  rfl
 have eC:ZkZ (XQ d)=(ZT.Instances (XQ d)).map XT++((ZT.Yo d).filter (fun p=>decide (Ym.Dir p=1))).map Ym.Net:=rfl
 have hcnt:∀ v:Int,(ZkZ d).countP (fun y=>decide (y=v))=(ZkZ (XQ d)).countP (fun y=>decide (y=v))+if XT x=v then 1 else 0:=fun v=>by
  rw [eD,eC,List.countP_append,List.countP_append,List.countP_append,List.countP_singleton]
  by_cases q:XT x=v
  ·simp only [q,decide_true,if_true];omega
  ·simp only [q,decide_false,if_false];simp
 rw [ZjK] at ho
 have none:∀ p∈places (XQ d),p.2.2.1≠((ZT.Yh d).length:Int)-1:=by
  intro p hp e
  cases h2:p.2.2.2.1 with
  | false=>exact hs p (ZiS hn hp) h2 e
  | true =>
   have h3:=Ztz hf.cut hp h2
   have h4:=ho ((ZT.Yh d).length-1) (by omega)
   rw [hcnt,if_pos (by omega)] at h4
   have h5:0<(ZkZ (XQ d)).countP (fun y=>decide (y=(((ZT.Yh d).length-1:Nat):Int))):=List.countP_pos_iff.2 ⟨_,h3,by simp;omega⟩
   omega
 have netC:∀ n,Zab d n→n≠((ZT.Yh d).length:Int)-1→Zab (XQ d) n:=fun n h1 h2=>by
  unfold Zab at *
  rw [eN]
  omega
 have eI:∀ i y,(ZT.Instances (XQ d))[i]?=some y→(ZT.Instances d)[i]?=some y:=fun i y hy=>by
  rw [hcut,List.getElem?_append_left (List.getElem?_eq_some_iff.1 hy).1]
  exact hy
 refine ⟨hl,⟨by show (List.take _ (ZT.Instances d)).length≤14;rw [List.length_take];omega,by rw [eN];omega,n3,?_,n5.take _,n6⟩,fun y hy=>?_,fun y hy=>?_,?_⟩
 ·have:Jy (XQ d)=(Jy d).take ((ZT.Instances d).length-1):=by
   unfold Jy
   show List.map ZW.Name (List.take _ (ZT.Instances d))=_
   rw [List.map_take]
  rw [this]
  exact n4.take _
 ·obtain ⟨i,hy2⟩:=List.getElem?_of_mem hy
  obtain ⟨r1,r2,r4⟩:=hi y (List.mem_of_getElem? (eI i y hy2))
  refine ⟨r1,r2,fun n hn2=>netC n (r4 n hn2) ?_⟩
  obtain ⟨j,hj⟩:=List.getElem?_of_mem hn2
  exact none _ (List.mem_of_getElem? (ZeX hy2 hj))
 ·obtain ⟨r1,r2⟩:=hq y hy
  obtain ⟨j,hj⟩:=List.getElem?_of_mem hy
  exact ⟨r1,netC _ r2 (none _ (List.mem_of_getElem? (Znu (d:=XQ d) hj)))⟩
 ·rw [ZjK]
  intro v hv
  rw [eN] at hv
  have:=ho v (by omega)
  rw [hcnt,if_neg (by omega)] at this
  exact this
end Go.Proofs.YtdabmnfkcnkkbaaGreatDoor
/-
  Plain laws: the blocks that edits make are valid.
-/
namespace Go.Proofs.YtdabmnfkcnkkbaaGreatDoor
set_option linter.unusedVariables false
set_option linter.unusedSimpArgs false
open Go Go.Sx
theorem ZlS {l:List Int} (h:l.length≤1048576):sm (.sl (.int .i64)) l:=⟨by omega,fun _ _=>trivial⟩
theorem ZlT {s:List UInt8} {c:Int} {l:List Int} (h1:sm .str s) (h2:l.length≤1048576):sm Yr (s,c,l,()):=⟨h1,trivial,ZlS h2,trivial⟩
theorem Zoi {a b c d:List Int} (h1:a.length≤1048576) (h2:b.length≤1048576) (h3:c.length≤1048576) (h4:d.length≤1048576):sm Xr (a,b,c,d,()):=⟨ZlS h1,ZlS h2,ZlS h3,ZlS h4,trivial⟩
theorem ZfX {a:List ZW} {b:List (List UInt8)} {c:List Ym} (h1:sm (.sl Yr) a) (h2:sm (.sl .str) b) (h3:sm (.sl VX) c):sm YQ (a,b,c,()):=⟨h1,h2,h3,trivial⟩
theorem Zfu {a:Z7} {b:ZT} {c:List Z9} (h1:sm Y9 a) (h2:sm YQ b) (h3:sm (.sl Xr) c):sm Xg (a,b,c,()):=⟨h1,h2,h3,trivial⟩
theorem Zo7 {d:ZT} (h:sm YQ d) (a b n:Int):sm YQ (conn d a b n):=by
 obtain ⟨h1,h2,h3⟩:=ZaZ h
 have e:conn d a b n=(ZT.Instances (conn d a b n),ZT.Yh (conn d a b n),ZT.Yo (conn d a b n),()):=rfl
 rw [e]
 refine ZfX ⟨by rw [Xu];exact h1.1,fun y hy=>?_⟩ (by rw [QH];exact h3) ⟨by rw [Zfj];exact h2.1,fun y hy=>?_⟩
 ·obtain ⟨i,hi⟩:=List.getElem?_of_mem hy
  obtain ⟨x,hx,hn,_,hl,_⟩:=Zeg hi
  obtain ⟨s1,s2⟩:=Zi3 (Jp h1 hx)
  have s3:=Z8 s2
  exact ZlT (s:=ZW.Name y) (c:=ZW.Cell y) (l:=ZW.Yh y) (by rw [hn];exact s1) (by rw [hl];exact s3)
 ·obtain ⟨i,hi⟩:=List.getElem?_of_mem hy
  obtain ⟨x,hx,hn,_⟩:=ZnS hi
  have s1:=Ztg (Jp h2 hx)
  have:sm .str (Ym.Name y):=by rw [hn];exact s1
  exact ⟨this,trivial,trivial,trivial⟩
theorem Zu8 {d:ZT} (h:sm YQ d) (hf:(ZT.Instances d).length≤100) (hn:(ZT.Yh d).length≤100) {x:ZW} {s:List UInt8} (hx:sm Yr x) (hs:sm .str s):sm YQ (addInst d x s):=by
 obtain ⟨h1,h2,h3⟩:=ZaZ h
 refine ZfX ⟨by rw [List.length_append,List.length_singleton];omega,fun y hy=>?_⟩ ⟨by rw [List.length_append,List.length_singleton];omega,fun y hy=>?_⟩ h2
 ·rcases List.mem_append.1 hy with hy | hy
  ·exact h1.2 y hy
  ·rw [List.mem_singleton] at hy;rw [hy];exact hx
 ·rcases List.mem_append.1 hy with hy | hy
  ·exact h3.2 y hy
  ·rw [List.mem_singleton] at hy;rw [hy];exact hs
theorem Zo8 {t:Ty} {l:List t.den} (h:sm (.sl t) l) (m:Nat):sm (.sl t) (l.take m):=by
 have:=h.1
 exact ⟨by rw [List.length_take];omega,fun x hx=>h.2 x (List.mem_of_mem_take hx)⟩
theorem Zu9 {d:ZT} (h:sm YQ d):sm YQ (XQ d):=by
 obtain ⟨h1,h2,h3⟩:=ZaZ h
 exact ZfX (Zo8 h1 _) (Zo8 h3 _) h2
theorem Znz {pl:List Pl} {ws:List Z9} {nd:Nat→Int} (h:sm (.sl Xr) ws) (hp:pl.length≤1048576):sm (.sl Xr) (wired pl ws nd):=by
 have h1:=h.1
 refine ⟨by rw [Zfy];exact h1,fun y hy=>?_⟩
 obtain ⟨v,hv⟩:=List.getElem?_of_mem hy
 rw [ZcG] at hv
 cases hx:ws[v]? with
 | none=>rw [hx] at hv;cases hv
 | some w =>
  rw [hx] at hv
  injection hv with hv
  subst hv
  obtain ⟨a1,a2,a3,a4⟩:=Zkb (Jp h hx)
  have:=Zew (v:Int) pl 0
  exact Zoi (Z8 a1) (Z8 a2) (Z8 a3) (by rw [List.length_map];omega)
theorem ZsK {b:ZU} (h:Zap b) {k:Nat} {p:Pl} (hp:(places (ZU.Design b))[k]?=some p) (h2:p.2.2.2.1=false) {n v:Int} (hn:Zab (ZU.Design b) n) (hv:∀ w,(ZU.Ye b)[n.toNat]?=some w→0≤v∧v≤((Z9.Parent w).length:Int)-1):Zap (moved b k p n v):=by
 have hpl:places (mvD b p n)=(places (ZU.Design b)).set k (p.1,p.2.1,n,p.2.2.2.1,()):=X3 hp n
 obtain ⟨b1,b2,b3⟩:=Zah h.sm
 have hD:Qr (ZU.Library b) (mvD b p n):=ZoG h.ok.1 hp h2 hn
 refine ⟨⟨hD,?_,?_⟩,?_⟩
 ·show (wired (places (mvD b p n)) (ZU.Ye b) (mvN b k v)).length=(ZT.Yh (conn (ZU.Design b) p.1 p.2.1 n)).length
  rw [Zfy,QH];exact h.ok.2.1
 ·exact ZnE (fun v w hw=>⟨_,h.ok.2.2 v w hw⟩) (by rw [hpl];exact (ZkL h).set n v hv)
 ·have hl:=Qn hD.few
  exact Zfu b1 (Zo7 b2 _ _ _) (Znz b3 (by omega))
theorem ZqG {c c2:Z4} (h1:sm XZ c) (h2:sm XZ c2) (h:VW c c2=some true):(Z4.YV c2).length=(Z4.YV c).length:=by
 unfold VW at h
 by_cases q:Z4.Kind c=Z4.Kind c2
 ·by_cases q2:((Z4.YV c).length:Int)=((Z4.YV c2).length:Int)
  ·omega
  ·exfalso;revert h;simp [q,q2]
 ·exfalso;revert h;simp [q]
theorem ZhH {d:ZT} {i:Nat} {x:ZW} (hx:(ZT.Instances d)[i]?=some x) (c:Int):places ((ZT.Instances d).set i (ZW.Name x,c,ZW.Yh x,()),ZT.Yh d,ZT.Yo d,())=places d:=by
 show cat Qi 0 ((ZT.Instances d).set i (ZW.Name x,c,ZW.Yh x,()))++cat Zdw 0 (ZT.Yo d)=_
 unfold places
 congr 1
 have hlt:=(List.getElem?_eq_some_iff.1 hx).1
 have e1:=Zef Qi hx
 have hx2:((ZT.Instances d).set i (ZW.Name x,c,ZW.Yh x,()))[i]?=some (ZW.Name x,c,ZW.Yh x,()):=List.getElem?_set_self hlt
 have e2:=Zef Qi hx2
 rw [e1,e2,List.take_set_of_le (Nat.le_refl _),List.drop_set_of_lt (by omega)]
 rfl
theorem Zqq {b:ZU} (h:Zap b) {i:Int} (h0:0≤i) {x:ZW} (hx:(ZT.Instances (ZU.Design b))[i.toNat]?=some x) {c:Int} {c1 c2:Z4} (hc1:(Z7.Cells (ZU.Library b))[(ZW.Cell x).toNat]?=some c1) (hc2:(Z7.Cells (ZU.Library b))[c.toNat]?=some c2)
  (hc:0≤c∧c≤((Z7.Cells (ZU.Library b)).length:Int)-1) (ha:(Z4.YV c2).length=(Z4.YV c1).length):Zap (swapped b i c):=by
 obtain ⟨b1,b2,b3⟩:=Zah h.sm
 obtain ⟨s1,s2,s3⟩:=ZaZ b2
 obtain ⟨⟨hl,⟨n1,n2,n3,n4,n5,n6⟩,hi,hq,ho⟩,hwn,hw⟩:=h.ok
 have e:swapped b i c=(ZU.Library b,((ZT.Instances (ZU.Design b)).set i.toNat (ZW.Name x,c,ZW.Yh x,()),ZT.Yh (ZU.Design b),ZT.Yo (ZU.Design b),()),ZU.Ye b,()):=by
  unfold swapped
  rw [hx]
 have hpl:=ZhH hx c
 rw [e]
 have hmem:∀ y∈(ZT.Instances (ZU.Design b)).set i.toNat (ZW.Name x,c,ZW.Yh x,()),y∈ZT.Instances (ZU.Design b)∨y=(ZW.Name x,c,ZW.Yh x,()):=fun y hy=>List.mem_or_eq_of_mem_set hy
 refine ⟨⟨⟨hl,⟨by show (List.set _ _ _).length≤14;rw [List.length_set];exact n1,n2,n3,?_,n5,n6⟩,fun y hy=>?_,hq,?_⟩,hwn,?_⟩,?_⟩
 ·have:Jy ((ZT.Instances (ZU.Design b)).set i.toNat (ZW.Name x,c,ZW.Yh x,()),ZT.Yh (ZU.Design b),ZT.Yo (ZU.Design b),())=Jy (ZU.Design b):=by
   show List.map ZW.Name (List.set _ _ _)=_
   rw [List.map_set]
   exact Zam (by rw [List.getElem?_map,hx];rfl)
  exact this▸n4
 ·rcases hmem y hy with hy | hy
  ·exact hi y hy
  ·subst hy
   obtain ⟨r1,⟨c',r2,r3⟩,r4⟩:=hi x (List.mem_of_getElem? hx)
   have r2:(Z7.Cells (ZU.Library b))[(ZW.Cell x).toNat]?=some c':=r2
   rw [hc1] at r2
   injection r2 with r2
   subst r2
   exact ⟨hc,⟨c2,hc2,by rw [ha];exact r3⟩,r4⟩
 ·unfold Zfg
  have:ZkZ ((ZT.Instances (ZU.Design b)).set i.toNat (ZW.Name x,c,ZW.Yh x,()),ZT.Yh (ZU.Design b),ZT.Yo (ZU.Design b),())=ZkZ (ZU.Design b):=by
   unfold ZkZ
   congr 1
   show List.map XT (List.set _ _ _)=_
   rw [List.map_set]
   exact Zam (by rw [List.getElem?_map,hx];rfl)
  rw [this]
  exact ho
 ·intro k w hk
  have:=hw k w hk
  unfold sinks at *
  have hpl2:places (ZU.Design ((ZU.Library b,((ZT.Instances (ZU.Design b)).set i.toNat (ZW.Name x,c,ZW.Yh x,()),ZT.Yh (ZU.Design b),ZT.Yo (ZU.Design b),()),ZU.Ye b,()):ZU))=places (ZU.Design b):=hpl
  rw [hpl2]
  exact this
 ·refine Zfu b1 (ZfX ⟨by rw [List.length_set];exact s1.1,fun y hy=>?_⟩ s3 s2) b3
  rcases hmem y hy with hy | hy
  ·exact s1.2 y hy
  ·subst hy
   obtain ⟨q1,q2⟩:=Zi3 (Jp s1 hx)
   exact ZlT q1 (Z8 q2)
theorem ZrZ {b:ZU} (h:Zap b) {n:Int} (hn:Zab (ZU.Design b) n) {w:Z9} (hw:Zar w ((sinks (ZU.Design b) n).length:Int)) (hs:sm Xr w):Zap (Zth b n w):=by
 obtain ⟨b1,b2,b3⟩:=Zah h.sm
 obtain ⟨hD,hwn,hW⟩:=h.ok
 refine ⟨⟨hD,by show (List.set _ _ _).length=_;rw [List.length_set];exact hwn,?_⟩,Zfu b1 b2 ⟨by rw [List.length_set];exact b3.1,fun y hy=>?_⟩⟩
 ·intro k y hk
  have hk:((ZU.Ye b).set n.toNat w)[k]?=some y:=hk
  rw [List.getElem?_set] at hk
  split at hk
  ·rename_i e
   split at hk
   ·injection hk with hk
    subst hk
    rw [←e]
    show Zar w ((sinks (ZU.Design b) ((n.toNat:Nat):Int)).length:Int)
    rw [show ((n.toNat:Nat):Int)=n by have:=hn.1;omega]
    exact hw
   ·cases hk
  ·exact hW k y hk
 ·rcases List.mem_or_eq_of_mem_set hy with hy | hy
  ·exact b3.2 y hy
  ·rw [hy];exact hs
theorem ZgR {b:ZU} (h:Zap b) {e:ZY} {k:Nat} {p q:Pl} (hp:(places (ZU.Design b))[k]?=some p):(places (addInst (ZU.Design b) (ZmH b e q) (ZY.Name e)))[Zpi b k]?=some p:=by
 unfold Zpi
 by_cases hk:k<YZ (ZU.Design b)
 ·rw [if_pos hk,ZnN hk];exact hp
 ·rw [if_neg hk]
  have:=ZnM (d:=ZU.Design b) (x:=ZmH b e q) (s:=ZY.Name e) (k:=k) (by omega)
  rw [show (ZW.Yh (ZmH b e q)).length=2 from rfl] at this
  rw [this];exact hp
theorem ZsQ {d:ZT} {k:Nat} {p:Pl} (hp:(places d)[k]?=some p) (h1:p.1<((ZT.Instances d).length:Int)∨True):p.1<((ZT.Instances d).length:Int):=by
 rcases Vp hp with ⟨i,j,x,m,hx,hn,e,rfl⟩ | ⟨j,q,hq,e,rfl⟩
 ·have:=(List.getElem?_eq_some_iff.1 hx).1
  show (i:Int)<_
  omega
 ·show (-1:Int)<_
  omega
theorem Zfh {b:ZU} {e:ZY} {k:Nat} {p:Pl} (hp:(places (ZU.Design b))[k]?=some p):ZnH b e p=conn (addInst (ZU.Design b) (ZmH b e p) (ZY.Name e)) p.1 p.2.1 ((ZT.Yh (ZU.Design b)).length:Int) :=
 (Zsi (ZsQ hp (.inr trivial))).symm
theorem Zto:Zar ZpX 0:=by
 refine ⟨⟨by decide,by decide⟩,rfl,rfl,rfl,fun k x hk=>?_,?_,?_,?_⟩
 ·match k,hk with
  | 0,hk =>
   injection hk with hk
   exact ⟨fun _=>⟨hk.symm,rfl⟩,fun h=>by omega⟩
  | k+1,hk=>cases hk
 ·intro x hx
  rw [show Z9.Res ZpX=[0] from rfl,List.mem_singleton] at hx
  omega
 ·intro x hx
  rw [show Z9.Cap ZpX=[0] from rfl,List.mem_singleton] at hx
  omega
 ·intro x hx
  cases hx
theorem Zss {b:ZU} (h:Zap b) {e:ZY} {k:Nat} {p:Pl} (hp:(places (ZU.Design b))[k]?=some p) (h2:p.2.2.2.1=false) :
  Fits (places (addInst (ZU.Design b) (ZmH b e p) (ZY.Name e))) (ZU.Ye b++[ZpX]) (ZoX (Xo b) (YZ (ZU.Design b)) (Xo b k)):=by
 have hf:=h.ok.1.few
 have hold:=ZkL h
 have hws:∀ (m:Int) (w:Z9),Zab (ZU.Design b) m→(ZU.Ye b++[ZpX])[m.toNat]?=some w→(ZU.Ye b)[m.toNat]?=some w:=fun m w hm hw=>by
  rw [List.getElem?_append_left (by rw [h.ok.2.1];unfold Zab at hm;omega)] at hw
  exact hw
 intro j q w hq hd hw
 unfold ZoX
 have hil:YZ (ZU.Design b)≤YZ (ZU.Design b):=Nat.le_refl _
 by_cases c1:j<YZ (ZU.Design b)
 ·rw [if_pos c1]
  rw [ZnN c1] at hq
  exact hold j q w hq hd (hws _ _ (Jm h.ok.1 (List.mem_of_getElem? hq)) hw)
 ·rw [if_neg c1]
  by_cases c2:j=YZ (ZU.Design b)
  ·rw [if_pos c2]
   have:=add_mid (d:=ZU.Design b) (x:=ZmH b e p) (s:=ZY.Name e) (j:=0) (by show 0<2;omega)
   rw [Nat.add_zero,←c2,hq] at this
   have e1:q=ZcH (ZT.Instances (ZU.Design b)).length (ZmH b e p) 0 p.2.2.1:=by
    have h3:=Zfl (i:=(ZT.Instances (ZU.Design b)).length) (x:=ZmH b e p) (j:=0) (n:=p.2.2.1) rfl
    rw [←this] at h3
    injection h3
   have e2:q.2.2.1=p.2.2.1:=by rw [e1];rfl
   rw [e2] at hw
   exact hold k p w hp h2 (hws _ _ (Jm h.ok.1 (List.mem_of_getElem? hp)) hw)
  ·rw [if_neg c2]
   by_cases c3:j=YZ (ZU.Design b)+1
   ·exfalso
    have:=add_mid (d:=ZU.Design b) (x:=ZmH b e p) (s:=ZY.Name e) (j:=1) (by show 1<2;omega)
    rw [←c3,hq] at this
    have h3:=Zfl (i:=(ZT.Instances (ZU.Design b)).length) (x:=ZmH b e p) (j:=1) (n:=((ZT.Yh (ZU.Design b)).length:Int)) rfl
    rw [←this] at h3
    injection h3 with h3
    rw [h3] at hd
    revert hd
    show ¬(decide ((1:Int)=IntKind.i64.wrap ((2:Int)-1))=false)
    rw [V4 (by omega) (by omega)]
    simp
   ·rw [if_neg c3]
    have:=ZnM (d:=ZU.Design b) (x:=ZmH b e p) (s:=ZY.Name e) (k:=j-2) (by omega)
    rw [show (ZW.Yh (ZmH b e p)).length=2 from rfl,show j-2+2=j by omega,hq] at this
    exact hold (j-2) q w this.symm hd (hws _ _ (Jm h.ok.1 (List.mem_of_getElem? this.symm)) hw)
theorem ZmM {α:Type} {p:α→Bool} {l:List α} (h:Za9 p l<0):∀ x∈l,p x=false:=by
 intro x hx
 cases hp:p x with
 | false=>rfl
 | true =>
  have:=VN.2 (List.any_eq_true.2 ⟨x,hx,hp⟩)
  omega
theorem ZhJ {b:ZU} {e:ZY} (h:ZkS b e) (k2:ZY.Kind e=2) (hs:sm .str (ZY.Name e)) {p:Pl} (hp:Zec b e p):Zap (buffered b e (ZY.Place e).toNat p):=by
 have hB:=h.blk
 obtain ⟨b1,b2,b3⟩:=Zah hB.sm
 obtain ⟨l1,l2⟩:=h.lim k2
 obtain ⟨p',c,hp',hd,hc,hk,hpins,hname,hni,hnn⟩:=h.poss.2.1 k2
 have:p'=p:=by
  have:=hp'.2
  rw [hp.2] at this
  injection this with this
  exact this.symm
 subst this
 obtain ⟨_,hcr⟩:=h.range.1 (.inr k2)
 have hc2:(Z7.Cells (ZU.Library b))[(ZY.Cell e).toNat]?=some c:=by
  have:=hc
  unfold atI at this
  rw [if_pos hcr.1] at this
  exact this
 have hA:Qr (ZU.Library b) (addInst (ZU.Design b) (ZmH b e p') (ZY.Name e)):=by
  refine ZuG hB.ok.1 hname (fun hm=>?_) (fun hm=>?_) l1 l2 hcr.1 hcr.2 hc2 hpins (Jm hB.ok.1 hp.mem)
  ·obtain ⟨x,hx,e1⟩:=List.mem_map.1 hm
   have:=ZmM hni x hx
   simp [e1] at this
  ·have:=ZmM hnn _ hm
   simp at this
 have hN:Zab (addInst (ZU.Design b) (ZmH b e p') (ZY.Name e)) ((ZT.Yh (ZU.Design b)).length:Int):=by
  unfold Zab
  show 0≤_∧_≤((ZT.Yh (ZU.Design b)++[ZY.Name e]).length:Int)-1
  rw [List.length_append,List.length_singleton]
  omega
 have hpk:=ZgR (e:=e) (q:=p') hB hp.2
 have hD:Qr (ZU.Library b) (ZnH b e p'):=by
  rw [Zfh hp.2]
  exact ZoG hA hpk hd hN
 have hl:=Qn hD.few
 have hwn:=hB.ok.2.1
 have hpl:places (ZnH b e p')=(places (addInst (ZU.Design b) (ZmH b e p') (ZY.Name e))).set (Zpi b (ZY.Place e).toNat) (p'.1,p'.2.1,((ZT.Yh (ZU.Design b)).length:Int),p'.2.2.2.1,()):=by
  rw [Zfh hp.2]
  exact X3 hpk _
 refine ⟨⟨hD,?_,?_⟩,?_⟩
 ·show (wired (places (ZnH b e p')) (ZU.Ye b++[ZpX]) (Zvq b (ZY.Place e).toNat)).length=(ZT.Yh (conn (ZU.Design b) p'.1 p'.2.1 _)++[ZY.Name e]).length
  rw [Zfy,List.length_append,List.length_append,QH,hwn]
  rfl
 ·refine ZnE (pl:=places (ZnH b e p')) (fun v w hw=>?_) ?_
  ·by_cases hv:v<(ZU.Ye b).length
   ·rw [List.getElem?_append_left hv] at hw
    exact ⟨_,hB.ok.2.2 v w hw⟩
   ·rw [List.getElem?_append_right (by omega)] at hw
    have:=List.mem_of_getElem? hw
    rw [List.mem_singleton] at this
    rw [this]
    exact ⟨_,Zto⟩
  ·rw [hpl]
   refine (Zss hB hp.2 hd).set _ 0 (fun w hw=>?_)
   rw [Int.toNat_natCast,←hwn,List.getElem?_append_right (Nat.le_refl _),Nat.sub_self] at hw
   injection hw with hw
   rw [←hw]
   exact ⟨Int.le_refl _,by show (0:Int)≤(1:Int)-1;omega⟩
 ·refine Zfu b1 ?_ (Znz ⟨?_,fun y hy=>?_⟩ (by omega))
  ·exact Zu8 (Zo7 b2 _ _ _) (by rw [Xu];omega) (by rw [QH];omega) (ZlT hs (by show 2≤_;omega)) hs
  ·rw [List.length_append,List.length_singleton]
   have:=hB.ok.1.2.1.2.1
   omega
  ·rcases List.mem_append.1 hy with hy | hy
   ·exact b3.2 y hy
   ·rw [List.mem_singleton] at hy
    rw [hy]
    exact Zoi (by decide) (by decide) (by decide) (by decide)
end Go.Proofs.YtdabmnfkcnkkbaaGreatDoor
/-
  Plain laws: a block with a buffer less is valid.
-/
namespace Go.Proofs.YtdabmnfkcnkkbaaGreatDoor
set_option linter.unusedVariables false
set_option linter.unusedSimpArgs false
open Go Go.Sx
theorem Fits.cut {d:ZT} {ws:List Z9} {nd:Nat→Int} (h:Fits (places d) ws nd) {x:ZW} (hn:0<(ZT.Instances d).length) (hx:(ZT.Instances d)[(ZT.Instances d).length-1]?=some x) (h2:(ZW.Yh x).length=2) (m:Nat) :
  Fits (places (XQ d)) (ws.take m) (Zn5 nd (YZ (XQ d))):=by
 intro k p w hp hd hw
 rw [List.getElem?_take] at hw
 split at hw
 ·unfold Zn5
  have hpc:=Zg1 (s:=[]) hn hx
  by_cases c:k<YZ (XQ d)
  ·rw [if_pos c]
   exact h k p w (by rw [hpc,ZnN c];exact hp) hd hw
  ·rw [if_neg c]
   have:=ZnM (d:=XQ d) (x:=x) (s:=[]) (k:=k) (by omega)
   rw [h2] at this
   exact h (k+2) p w (by rw [hpc,this];exact hp) hd hw
 ·cases hw
theorem ZcY (d:ZT):(places d).length=YZ d+(ZT.Yo d).length:=by
 unfold places YZ
 rw [List.length_append,Zob]
theorem Zjl {d:ZT} {k:Nat} {p:Pl} (hp:(places d)[k]?=some p) (n:Int):YZ (conn d p.1 p.2.1 n)=YZ d:=by
 have h1:=ZcY d
 have h2:=ZcY (conn d p.1 p.2.1 n)
 rw [X3 hp,List.length_set,Zfj] at h2
 omega
theorem Zi7 {b:ZU} (h:Zap b) (hL:Zig b) {k:Nat} {p:Pl} {m:Int} (hs:sinks (ZU.Design b) (((ZT.Yh (ZU.Design b)).length:Int)-1)=[(k:Int)]) (hp:(places (ZU.Design b))[k]?=some p) (hpi:p.1≠((ZT.Instances (ZU.Design b)).length:Int)-1)
  (hm:∀ x,(ZT.Instances (ZU.Design b))[(ZT.Instances (ZU.Design b)).length-1]?=some x→atI (ZW.Yh x) 0=some m):Zap (ZjU b k p m):=by
 obtain ⟨b1,b2,b3⟩:=Zah h.sm
 obtain ⟨k',p',hs',hp',hpn,hpd,hpi'⟩:=hL.sink h
 have ek:k=k':=by
  rw [hs] at hs'
  injection hs' with hs' _
  omega
 subst ek
 rw [hp] at hp'
 injection hp' with hp'
 subst hp'
 obtain ⟨x,c,w,m',hn,hx,hc,hk1,hk2,hl2,hm',hl,hne,hnm,hw,hs1,hs2,hp1,hc0⟩:=hL
 have em:m'=m:=by
  have:=hm x hx
  rw [hm'] at this
  injection this
 subst em
 have hD:=h.ok.1
 have hwn:=h.ok.2.1
 have hm0:(ZW.Yh x)[0]?=some m':=hm'
 have hl1:(ZW.Yh x)[1]?=some (((ZT.Yh (ZU.Design b)).length:Int)-1):=hl
 have hmn:=(hD.2.2.1 x (List.mem_of_getElem? hx)).2.2 m' (List.mem_of_getElem? hm0)
 have hlx:XT x=((ZT.Yh (ZU.Design b)).length:Int)-1:=by
  have:=ZgV (x:=x) (by omega)
  rw [hl2,show 2-1=1 from rfl,hl1] at this
  injection this with this
  exact this.symm
 have hC:Qr (ZU.Library b) (conn (ZU.Design b) p.1 p.2.1 m'):=ZoG hD hp hpd hmn
 have hn2:0<(ZT.Instances (conn (ZU.Design b) p.1 p.2.1 m')).length:=by rw [Xu];exact hn
 have hx2:(ZT.Instances (conn (ZU.Design b) p.1 p.2.1 m'))[(ZT.Instances (conn (ZU.Design b) p.1 p.2.1 m')).length-1]?=some x:=by
  have hy:(ZT.Instances (conn (ZU.Design b) p.1 p.2.1 m'))[(ZT.Instances (conn (ZU.Design b) p.1 p.2.1 m')).length-1]?=some ((ZT.Instances (conn (ZU.Design b) p.1 p.2.1 m'))[(ZT.Instances (conn (ZU.Design b) p.1 p.2.1 m')).length-1]'(by omega)):=List.getElem?_eq_getElem _
  generalize (ZT.Instances (conn (ZU.Design b) p.1 p.2.1 m'))[(ZT.Instances (conn (ZU.Design b) p.1 p.2.1 m')).length-1]'(by omega)=y at hy
  obtain ⟨x',hx',_,_,_,he,_⟩:=Zeg hy
  rw [Xu,hx] at hx'
  injection hx' with hx'
  rw [hy,hx',he (by rw [Xu];omega)]
 have hsn:∀ q∈places (conn (ZU.Design b) p.1 p.2.1 m'),q.2.2.2.1=false→q.2.2.1≠((ZT.Yh (conn (ZU.Design b) p.1 p.2.1 m')).length:Int)-1:=by
  intro q hq hd e
  rw [QH] at e
  rw [X3 hp] at hq
  obtain ⟨j,hj⟩:=List.getElem?_of_mem hq
  rw [List.getElem?_set] at hj
  split at hj
  ·split at hj
   ·injection hj with hj
    subst hj
    exact hne e
   ·cases hj
  ·rename_i hjk
   have h3:=Zi2 hj e hd
   have h4:(sinks (ZU.Design b) (((ZT.Yh (ZU.Design b)).length:Int)-1))[nth (places (ZU.Design b)) (((ZT.Yh (ZU.Design b)).length:Int)-1) j]?=some (j:Int):=h3
   rw [hs] at h4
   have h5:=List.mem_of_getElem? h4
   rw [List.mem_singleton] at h5
   exact absurd (by omega) hjk
 have hU:Qr (ZU.Library b) (unD b p m'):=ZuQ hC hn2 hx2 (by rw [QH];exact hlx) hsn
 have hins:YZ (unD b p m')=YZ (ZU.Design b)-2:=by
  have h1:=Zgw hn2 hx2 hl2
  have h2:=Zjl hp m'
  unfold unD
  omega
 have hpl:=Qn hU.few
 refine ⟨⟨hU,?_,?_⟩,?_⟩
 ·show (wired (places (unD b p m')) ((ZU.Ye b).take ((ZU.Ye b).length-1)) (unN b k)).length=((ZT.Yh (conn (ZU.Design b) p.1 p.2.1 m')).take ((ZT.Yh (conn (ZU.Design b) p.1 p.2.1 m')).length-1)).length
  rw [Zfy,List.length_take,List.length_take,QH,hwn]
 ·refine ZnE (pl:=places (unD b p m')) (fun v w hw=>?_) ?_
  ·rw [List.getElem?_take] at hw
   split at hw
   ·exact ⟨_,h.ok.2.2 v w hw⟩
   ·cases hw
  ·have h1:Fits (places (conn (ZU.Design b) p.1 p.2.1 m')) (ZU.Ye b) (mvN b k (Xo b (YZ (ZU.Design b)-2))):=by
    rw [X3 hp]
    refine (ZkL h).set m' _ (fun w' hw'=>?_)
    have h5:=ZeX hx hm0
    rw [Nat.add_zero,ZmO hn hx hl2] at h5
    refine ZkL h _ _ w' h5 ?_ hw'
    show decide ((0:Int)=IntKind.i64.wrap (((ZW.Yh x).length:Int)-1))=false
    rw [hl2,V4 (by omega) (by omega)]
    decide
   have h2:=h1.cut hn2 hx2 hl2 ((ZU.Ye b).length-1)
   have h3:YZ (XQ (conn (ZU.Design b) p.1 p.2.1 m'))=YZ (ZU.Design b)-2:=hins
   rw [h3] at h2
   exact h2
 ·exact Zfu b1 (Zu9 (Zo7 b2 _ _ _)) (Znz (Zo8 b3 _) (by omega))
end Go.Proofs.YtdabmnfkcnkkbaaGreatDoor
/-
  Plain laws: the reference's own copies; places connected, sinks attached (reference); edits applied.
-/
namespace Go.Proofs.YtdabmnfkcnkkbaaGreatDoor
set_option linter.unusedVariables false
set_option linter.unusedSimpArgs false
open Go Go.Sx
theorem ZkH (t:Yb) (ht:sm Xc t):ZfZ t=some t:=by
 have e1:=Zct (Yb.Ze5 t) (Z8 (t:=.int .i64) ht.1)
 have e2:=Zct (Yb.Loads t) (Z8 (t:=.int .i64) ht.2.1)
 have e3:=Zct (Yb.Values t) (Z8 (t:=.int .i64) ht.2.2.1)
 unfold ZfZ
 rw [e1,e2,e3]
 rfl
theorem Zfv (l:List Yb) (hl:sm (.sl Xc) l):Js l=some l:=by
 have h1:=Z8 hl
 unfold Js
 have:=Y3 (l:=l) (fun k=>(l.take k,(k:Int),())) (step:=fun v=>Vb l v.1 v.2.1) (good:=l) (fun k x hx hk=>by
  have hg:((l.take k).length+[x].length)*72≤140737488355328:=by rw [List.length_take,List.length_singleton];omega
  simp only [Vb,show (k:Int)<(l.length:Int) by omega,if_true,Yd,hx,Option.bind_some,ZkH x (Jp hl hx),Z5 hg,Vm (show k≤1048576 by omega)]
  rw [Y7 hx]) (by
  simp only [Vb,Int.lt_irrefl,if_false,List.take_length])
 simpa using this
theorem ZlX (c:Z4) (hs:sm XZ c):Zf1 c=some c:=by
 have p1:sm (.sl Zcb) (Z4.YV c):=hs.2.2.1
 have p2:sm (.sl Zdz) (Z4.JB c):=hs.2.2.2.1
 have p3:sm (.sl (.int .i64)) (Z4.Truth c):=hs.2.2.2.2.1
 have l1:=Z8 p1
 have l2:=Z8 p2
 have l3:=Z8 p3
 unfold Zf1
 rw [Z5 (by rw [List.length_nil];omega),Zct _ l3,Option.bind_some]
 have:=Y3 (l:=Z4.JB c) (fun k=>((k:Int),(Z4.JB c).take k,())) (step:=fun v=>Za3 c (Z4.Truth c) v.1 v.2.1) (good:=c) (fun k x hx hk=>by
  obtain ⟨q1,q2⟩:=ZsV (Jp p2 hx)
  have hg:∀ y:Yi,(((Z4.JB c).take k).length+[y].length)*80≤140737488355328:=fun y=>by rw [List.length_take,List.length_singleton];omega
  simp only [Za3,show (k:Int)<((Z4.JB c).length:Int) by omega,if_true,Yd,hx,Option.bind_some,Zfv _ q1,Zfv _ q2,Z5 (hg _),Vm (show k≤1048576 by omega)]
  rw [Y7 hx]) (by
  simp only [Za3,Int.lt_irrefl,if_false,List.take_length]
  rfl)
 simpa using this
theorem Zi4 (a:Z7) (ha:sm Y9 a):Zao a=some a:=by
 have hc:=Zmw ha
 have h1:=Z8 hc
 unfold Zao
 have:=Y3 (l:=Z7.Cells a) (fun k=>((k:Int),(Z7.Cells a).take k,())) (step:=fun v=>QU a v.1 v.2.1) (good:=a) (fun k x hx hk=>by
  have hg:(((Z7.Cells a).take k).length+[x].length)*112≤140737488355328:=by rw [List.length_take,List.length_singleton];omega
  simp only [QU,show (k:Int)<((Z7.Cells a).length:Int) by omega,if_true,Yd,hx,Option.bind_some,ZlX x (Jp hc hx),Z5 hg,Vm (show k≤1048576 by omega)]
  rw [Y7 hx]) (by
  simp only [QU,Int.lt_irrefl,if_false,List.take_length])
 simpa using this
theorem ZjT (d:ZT) (hd:sm YQ d):Zf3 d=some d:=by
 obtain ⟨s1,s2,s3⟩:=ZaZ hd
 have l1:=Z8 s1
 have l2:=Z8 s2
 have l3:=Z8 s3
 unfold Zf3
 rw [Z5 (by rw [List.length_nil];omega),Z5 (by rw [List.length_nil];omega)]
 have:=Y3 (l:=ZT.Instances d) (fun k=>((k:Int),(ZT.Instances d).take k,())) (step:=fun v=>Za5 d v.1 v.2.1) (good:=d) (fun k x hx hk=>by
  have hx2:=Zct (ZW.Yh x) (Z8 (Zi3 (Jp s1 hx)).2)
  have hg:∀ y:ZW,(((ZT.Instances d).take k).length+[y].length)*48≤140737488355328:=fun y=>by rw [List.length_take,List.length_singleton];omega
  simp only [Za5,show (k:Int)<((ZT.Instances d).length:Int) by omega,if_true,Yd,hx,Option.bind_some,hx2,Z5 (hg _),Vm (show k≤1048576 by omega)]
  rw [Y7 hx]) (by
  simp only [Za5,Int.lt_irrefl,if_false,List.take_length]
  rfl)
 simpa using this
theorem Zo9 (b:ZU) (hb:sm Xg b):Zf4 b=some b:=by
 obtain ⟨b1,b2,b3⟩:=Zah hb
 have h1:=Z8 b3
 unfold Zf4
 rw [Zi4 _ b1,Option.bind_some,ZjT _ b2,Option.bind_some]
 have:=Y3 (l:=ZU.Ye b) (fun k=>((k:Int),(ZU.Ye b).take k,())) (step:=fun v=>Za6 b (ZU.Library b) (ZU.Design b) v.1 v.2.1) (good:=b) (fun k x hx hk=>by
  have hg:(((ZU.Ye b).take k).length+[x].length)*96≤140737488355328:=by rw [List.length_take,List.length_singleton];omega
  simp only [Za6,show (k:Int)<((ZU.Ye b).length:Int) by omega,if_true,Yd,hx,Option.bind_some,ZgO x (Jp b3 hx),Z5 hg,Vm (show k≤1048576 by omega)]
  rw [Y7 hx]) (by
  simp only [Za6,Int.lt_irrefl,if_false,List.take_length])
 simpa using this
theorem Zey {d:ZT} {k:Nat} {p:Pl} (hp:(places d)[k]?=some p) (n:Int):Jt d p n=some (conn d p.1 p.2.1 n):=by
 unfold Jt conn
 rcases Vp hp with ⟨i,j,x,m,hx,hn,e,rfl⟩ | ⟨j,q,hq,e,rfl⟩
 ·have c:¬((i:Int)<0):=by omega
  simp only [ZcH,Yk.instance,Yk.pin,if_neg c,Yd,hx,Option.bind_some,Int.toNat_natCast]
  have hn2:x.2.2.1[j]?=some m:=hn
  rw [hn2]
  rfl
 ·have c:((-1:Int)<0):=by omega
  simp only [Yk.instance,Yk.pin,if_pos c,Yd,hq,Option.bind_some,Int.toNat_natCast]
  rfl
def Zr2 (pl:List Pl) (ws:List Z9) (nd:Nat→Int) (k:Nat):List Z9:=cat (fun v w=>[if v<k then Zc1 w ((cat (JO (v:Int)) 0 pl).map (fun k=>nd k.toNat)) else w]) 0 ws
theorem Zg6 (pl:List Pl) (ws:List Z9) (nd:Nat→Int) (k v:Nat):(Zr2 pl ws nd k)[v]?=(ws[v]?).map (fun w=>if v<k then Zc1 w ((cat (JO (v:Int)) 0 pl).map (fun k=>nd k.toNat)) else w):=by
 unfold Zr2
 rw [Zas,Nat.zero_add]
theorem ZnF (pl:List Pl) (ws:List Z9) (nd:Nat→Int) (k:Nat):(Zr2 pl ws nd k).length=ws.length:=VY _ _
theorem Zr4 (pl:List Pl) (ws:List Z9) (nd:Nat→Int):Zr2 pl ws nd 0=ws:=by
 apply List.ext_getElem?
 intro v
 rw [Zg6]
 simp
theorem Zs3 (pl:List Pl) (ws:List Z9) (nd:Nat→Int):Zr2 pl ws nd ws.length=wired pl ws nd:=by
 apply List.ext_getElem?
 intro v
 rw [Zg6,ZcG]
 cases hv:ws[v]? with
 | none=>rfl
 | some w =>
  have:=(List.getElem?_eq_some_iff.1 hv).1
  simp only [Option.map_some,if_pos this]
theorem Zr3 {pl:List Pl} {ws:List Z9} {nd:Nat→Int} {k:Nat} {w:Z9} (hw:ws[k]?=some w):(Zr2 pl ws nd k)[k]?=some w∧(Zr2 pl ws nd k).set k (Zc1 w ((cat (JO (k:Int)) 0 pl).map (fun k=>nd k.toNat)))=Zr2 pl ws nd (k+1):=by
 constructor
 ·rw [Zg6,hw];simp
 ·apply List.ext_getElem?
  intro v
  rw [List.getElem?_set,ZnF]
  split
  ·rename_i e
   subst e
   rw [if_pos (List.getElem?_eq_some_iff.1 hw).1,Zg6,hw,Option.map_some,if_pos (by omega)]
  ·rw [Zg6,Zg6]
   congr 1
   funext w'
   by_cases h:v<k
   ·rw [if_pos h,if_pos (by omega)]
   ·rw [if_neg h,if_neg (by omega)]
theorem Zfe {b:ZU} {nodes:List Int} (hf:Few (ZU.Design b)) (hl:nodes.length=(places (ZU.Design b)).length) (hw:(ZU.Ye b).length≤1048576) :
  QF b nodes=some (ZU.Library b,ZU.Design b,wired (places (ZU.Design b)) (ZU.Ye b) (ZlC nodes),()):=by
 have hpl:=Qn hf
 unfold QF
 have:=Y3 (l:=ZU.Ye b) (fun k=>((k:Int),Zr2 (places (ZU.Design b)) (ZU.Ye b) (ZlC nodes) k,())) (step:=fun v=>Ja b nodes v.1 v.2.1) (good:=(ZU.Library b,ZU.Design b,wired (places (ZU.Design b)) (ZU.Ye b) (ZlC nodes),())) (fun k w hk hlt=>by
  obtain ⟨a1,a2⟩:=Zr3 (nd:=ZlC nodes) (pl:=places (ZU.Design b)) hk
  have hlc:(sinks (ZU.Design b) (k:Int)).length≤(places (ZU.Design b)).length:=Zew (k:Int) (places (ZU.Design b)) 0
  simp only [Ja]
  rw [if_pos (show (k:Int)<(((Zr2 (places (ZU.Design b)) (ZU.Ye b) (ZlC nodes) k).length:Nat):Int) by rw [ZnF];omega),VI _ _ hf,Option.bind_some]
  refine Y3 (l:=sinks (ZU.Design b) (k:Int)) (fun i=>(((sinks (ZU.Design b) (k:Int)).take i).map (fun x=>ZlC nodes x.toNat),(i:Int),())) (fun i x hx hi=>?_) ?_
  ·obtain ⟨j,p,hp,ex,hn,h2,hnth⟩:=Znx (pl:=places (ZU.Design b)) hx
   have hj:=(List.getElem?_eq_some_iff.1 hp).1
   have hnj:nodes[j]?=some (ZlC nodes j):=by
    unfold ZlC
    rw [List.getElem?_eq_getElem (by omega)]
    rfl
   simp only [Zbm,show (i:Int)<((sinks (ZU.Design b) (k:Int)).length:Int) by omega,if_true,Yd,hx,Option.bind_some]
   have et:=Y7 hx
   subst ex
   rw [Yd,hnj,Option.bind_some,Z5 (by rw [List.length_map,List.length_take,List.length_singleton];omega),Vm (show i≤1048576 by omega),et,List.map_append]
   rfl
  ·simp only [Zbm,Int.lt_irrefl,if_false,Yd,a1,Option.bind_some,Vm (show k≤1048576 by omega),Int.toNat_natCast,List.take_length]
   rw [←a2]
   rfl) (by
  simp only [Ja]
  rw [if_neg (show ¬(((ZU.Ye b).length:Nat):Int)<(((Zr2 (places (ZU.Design b)) (ZU.Ye b) (ZlC nodes) (ZU.Ye b).length).length:Nat):Int) by rw [ZnF];omega),Zs3])
 rw [Zr4] at this
 exact this
theorem ZjH (b:ZU):ZlC (Jv b)=Xo b:=by
 funext k
 unfold ZlC
 by_cases hk:k<(places (ZU.Design b)).length
 ·rw [ZgE hk];rfl
 ·rw [List.getElem?_eq_none (by rw [Jl];omega)]
  unfold Xo
  rw [List.getElem?_eq_none (by omega)]
  rfl
theorem ZnY {b:ZU} (h:Zap b) {k:Nat} {p:Pl} (hp:(places (ZU.Design b))[k]?=some p) (h2:p.2.2.2.1=false) {n v:Int} (hn:Zab (ZU.Design b) n) :
  Qe (ZU.Library b,conn (ZU.Design b) p.1 p.2.1 n,ZU.Ye b,()) (Zj5 Key (.int .i64) (JN (places (ZU.Design b)) (Xo b) (places (ZU.Design b)).length) (Zpv p) v)=some (moved b k p n v):=by
 have hM:=((ZgZ (ZU.Design b) (Xo b)).put hp v).set hp n
 rw [←X3 hp n] at hM
 have hwl:(ZU.Ye b).length≤1048576:=Z8 (Zah h.sm).2.2
 have hn1:n<((ZU.Ye b).length:Int):=by rw [h.ok.2.1];have:=hn.2;omega
 exact Zem (b:=(ZU.Library b,conn (ZU.Design b) p.1 p.2.1 n,ZU.Ye b,())) (h.ok.1.few.conn p.1 p.2.1 n) hM (by
  show Zhj (places (conn (ZU.Design b) p.1 p.2.1 n)) (ZU.Ye b).length
  rw [X3 hp]
  refine Zhj.set (fun q hq hd=>?_) hn.1 hn1
  have:=Jm h.ok.1 hq
  rw [h.ok.2.1]
  exact ⟨this.1,by have:=this.2;omega⟩) hwl
theorem Zoj {b:ZU} (h:Zap b) {k:Nat} {p:Pl} (hp:(places (ZU.Design b))[k]?=some p) (n v:Int) :
  QF (ZU.Library b,conn (ZU.Design b) p.1 p.2.1 n,ZU.Ye b,()) ((Jv b).set k v)=some (moved b k p n v):=by
 have hk:=(List.getElem?_eq_some_iff.1 hp).1
 have hf:=h.ok.1.few.conn p.1 p.2.1 n
 have e:=Zfe (b:=(ZU.Library b,conn (ZU.Design b) p.1 p.2.1 n,ZU.Ye b,())) (nodes:=(Jv b).set k v) hf (by
  show ((Jv b).set k v).length=(places (conn (ZU.Design b) p.1 p.2.1 n)).length
  rw [List.length_set,Jl,X3 hp,List.length_set]) (Z8 (Zah h.sm).2.2)
 rw [e]
 have e2:ZlC ((Jv b).set k v)=mvN b k v:=by
  funext j
  rw [Znq (by rw [Jl];exact hk),ZjH]
  rfl
 rw [e2]
 rfl
end Go.Proofs.YtdabmnfkcnkkbaaGreatDoor
/-
  Plain laws: a buffer put in, a buffer taken away: the program and the reference; edits applied.
-/
namespace Go.Proofs.YtdabmnfkcnkkbaaGreatDoor
set_option linter.unusedVariables false
set_option linter.unusedSimpArgs false
open Go Go.Sx
theorem Zro {b:ZU} (h:Zap b):Zhj (places (ZU.Design b)) (ZU.Ye b).length:=fun q hq _=>by
 have:=Jm h.ok.1 hq
 rw [h.ok.2.1]
 exact ⟨this.1,by have:=this.2;omega⟩
theorem Zqy (pl:List Pl) (ws:List Z9) (nd:Nat→Int) {w w':Z9} (h:∀ l,Zc1 w l=Zc1 w' l):wired pl (ws++[w]) nd=wired pl (ws++[w']) nd:=by
 unfold wired
 rw [ZcN,ZcN]
 simp only [cat,h]
theorem Zmb {b:ZU} {e:ZY} (h:ZkS b e) (k2:ZY.Kind e=2) (hs:sm .str (ZY.Name e)) {p:Pl} (hp:Zec b e p) (hd:p.2.2.2.1=false):ZaS b e=some (buffered b e (ZY.Place e).toNat p):=by
 have hB:=h.blk
 have hf:=hB.ok.1.few
 have h14:=hf.insts
 have h30:=hB.ok.1.2.1.2.1
 have hwn:=hB.ok.2.1
 have hR:=ZhJ h k2 hs hp
 have hpk:=ZgR (e:=e) (q:=p) hB hp.2
 have hM0:=ZgZ (ZU.Design b) (Xo b)
 have hv:ZgY Key (.int .i64) (JN (places (ZU.Design b)) (Xo b) (places (ZU.Design b)).length) (p.1,p.2.1,())=some (Xo b (ZY.Place e).toNat):=hM0 _ p hp.2 hd
 have hM1:=hM0.add (x:=ZmH b e p) (s:=ZY.Name e) rfl (by omega) (Xo b (ZY.Place e).toNat)
 have hM2:=(hM1.put hpk 0).set hpk ((ZT.Yh (ZU.Design b)).length:Int)
 rw [←X3 hpk,←Zfh hp.2] at hM2
 have hN:=Zro hR
 have hl:(ZU.Ye (buffered b e (ZY.Place e).toNat p)).length=(ZU.Ye b++[ZpX]).length:=Zfy _ _ _
 rw [hl] at hN
 have hC:=Zem (b:=(ZU.Library b,ZnH b e p,ZU.Ye b++[ZpX],())) hR.ok.1.few hM2 hN (by
  show (ZU.Ye b++[ZpX]).length≤_
  rw [List.length_append,List.length_singleton];omega)
 have hS:=Ze9 (b:=(ZU.Library b,addInst (ZU.Design b) (ZmH b e p) (ZY.Name e),ZU.Ye b++[ZpX],())) hpk ((ZT.Yh (ZU.Design b)).length:Int)
 have eS:conn (ZU.Design ((ZU.Library b,addInst (ZU.Design b) (ZmH b e p) (ZY.Name e),ZU.Ye b++[ZpX],()):ZU)) p.1 p.2.1 ((ZT.Yh (ZU.Design b)).length:Int)=ZnH b e p:=(Zfh hp.2).symm
 rw [eS] at hS
 unfold ZaS
 rw [Zeo hB,Option.bind_some,YO _ hf,Option.bind_some,hp.at,Option.bind_some,
  show Xe (ZT.Yh (ZU.Design b))=some ((ZT.Yh (ZU.Design b)).length:Int) from rfl,Option.bind_some,
  show V3 (ZT.Instances (ZU.Design b))=some ((ZT.Instances (ZU.Design b)).length:Int) from rfl,Option.bind_some,
  Z5 (by rw [List.length_singleton];omega),Z5 (by rw [List.length_singleton];omega),Z5 (by rw [List.length_singleton];omega)]
 refine Eq.trans (congrArg (fun o=>Option.bind o _) hS) ?_
 rw [Option.bind_some]
 have e3:Option.getD (ZgY ZaL (Ty.int IntKind.i64) (JN (places (ZU.Design b)) (Xo b) (places (ZU.Design b)).length) (Yw.instance p,Yw.pin p,())) (0:Int)=Xo b (ZY.Place e).toNat:=by
  have:ZgY ZaL (Ty.int IntKind.i64) (JN (places (ZU.Design b)) (Xo b) (places (ZU.Design b)).length) (Yw.instance p,Yw.pin p,())=some (Xo b (ZY.Place e).toNat):=hv
  rw [this];rfl
 rw [e3]
 refine Eq.trans (congrArg (fun o=>Option.bind o _) hC) ?_
 rfl
theorem Zrn {b:ZU} {k:Nat} (hk:k<(places (ZU.Design b)).length) (v:Int) (hv:v=Xo b k) :
  ZlC (((Jv b).take (YZ (ZU.Design b))++[v,0]++(Jv b).drop (YZ (ZU.Design b))).set (Zpi b k) 0)=Zvq b k:=by
 have h2:=ZcY (ZU.Design b)
 have hm:YZ (ZU.Design b)≤(Jv b).length:=by rw [Jl];omega
 funext j
 rw [Znq (by
  rw [List.length_append,List.length_append,List.length_take,List.length_drop,Jl]
  unfold Zpi
  simp only [List.length_cons,List.length_nil]
  split<;>omega),ZsM hm,ZjH,hv]
 rfl
theorem Zmy {b:ZU} {e:ZY} (h:ZkS b e) (k2:ZY.Kind e=2) (hs:sm .str (ZY.Name e)) {p:Pl} (hp:Zec b e p) (hd:p.2.2.2.1=false):Zaa b e=some (buffered b e (ZY.Place e).toNat p):=by
 have hB:=h.blk
 have hf:=hB.ok.1.few
 have hpl:=Qn hf
 have h14:=hf.insts
 have h8:=hf.ports
 have h30:=hB.ok.1.2.1.2.1
 have hwn:=hB.ok.2.1
 have hk:=(List.getElem?_eq_some_iff.1 hp.2).1
 have h0:=hp.1
 have h2:=ZcY (ZU.Design b)
 have hR:=ZhJ h k2 hs hp
 have hW:IntKind.i64.wrap (((Jv b).length:Int)-((ZT.Yo (ZU.Design b)).length:Int))=(YZ (ZU.Design b):Int):=by
  rw [Jl,V4 (by omega) (by omega)];omega
 have hdr:List.take ((Jv b).length-YZ (ZU.Design b)) (List.drop (YZ (ZU.Design b)) (Jv b))=List.drop (YZ (ZU.Design b)) (Jv b):=List.take_of_length_le (by rw [List.length_drop];exact Nat.le_refl _)
 have hlump:Zbr 1 0=some (([-1],[0],[0],[0],()):Z9):=by
  unfold Zbr
  rw [Z5 (by omega),Z5 (by omega),Z5 (by omega),Z5 (by omega)]
  rfl
 have hln:((Jv b).take (YZ (ZU.Design b))++[Xo b (ZY.Place e).toNat,0]++(Jv b).drop (YZ (ZU.Design b))).length=(places (ZU.Design b)).length+2:=by
  rw [List.length_append,List.length_append,List.length_take,List.length_drop,Jl]
  simp only [List.length_cons,List.length_nil]
  omega
 have hbk:Zpi b (ZY.Place e).toNat<(places (ZU.Design b)).length+2:=by
  unfold Zpi
  split<;>omega
 have hpl2:(places (ZnH b e p)).length=(places (ZU.Design b)).length+2:=by
  have h3:=ZcY (ZnH b e p)
  rw [Zfh hp.2,X3 (ZgR (e:=e) (q:=p) hB hp.2),List.length_set]
  rw [Zea,List.length_append,List.length_append,QB,Zob,h2]
  unfold YZ ZmH
  show _+2+_=_
  omega
 have hA:=Zfe (b:=(ZU.Library b,ZnH b e p,ZU.Ye b++[([-1],[0],[0],[0],())],())) (nodes:=((Jv b).take (YZ (ZU.Design b))++[Xo b (ZY.Place e).toNat,0]++(Jv b).drop (YZ (ZU.Design b))).set (Zpi b (ZY.Place e).toNat) 0) hR.ok.1.few (by
  show (List.set _ _ _).length=(places (ZnH b e p)).length
  rw [List.length_set,hln,hpl2]) (by
  show (ZU.Ye b++[([-1],[0],[0],[0],())]).length≤_
  rw [List.length_append,List.length_singleton];omega)
 rw [Zrn hk _ rfl] at hA
 have hA2:QF (ZU.Library b,ZnH b e p,ZU.Ye b++[([-1],[0],[0],[0],())],()) ((((Jv b).take (YZ (ZU.Design b))++[Xo b (ZY.Place e).toNat,0]++(Jv b).drop (YZ (ZU.Design b)))).set (Zpi b (ZY.Place e).toNat) 0)=some (buffered b e (ZY.Place e).toNat p):=by
  rw [hA]
  show some (ZU.Library b,ZnH b e p,wired (places (ZnH b e p)) (ZU.Ye b++[([-1],[0],[0],[0],())]) (Zvq b (ZY.Place e).toNat),())=_
  rw [Zqy _ _ _ (w:=([-1],[0],[0],[0],())) (w':=ZpX) (fun l=>rfl)]
  rfl
 unfold Zaa
 rw [XJ _ hf,Option.bind_some,hp.at,Option.bind_some,ZdH hB,Option.bind_some,Qd hp.1 (ZgE hk),Option.bind_some,hW]
 simp only [Int.toNat_natCast,Int.toNat_zero,Nat.sub_zero,List.drop_zero,hdr]
 have hci:(ZT.Instances (conn (ZU.Design b) p.1 p.2.1 ((ZU.Ye b).length:Int))).length=(ZT.Instances (ZU.Design b)).length:=Xu
 have hcn:(ZT.Yh (conn (ZU.Design b) p.1 p.2.1 ((ZU.Ye b).length:Int))).length=(ZT.Yh (ZU.Design b)).length:=by rw [QH]
 have hl1:(List.take (YZ (ZU.Design b)) (Jv b)).length=YZ (ZU.Design b):=by rw [List.length_take,Jl];omega
 have hl2:(List.drop (YZ (ZU.Design b)) (Jv b)).length=(ZT.Yo (ZU.Design b)).length:=by rw [List.length_drop,Jl];omega
 rw [Z5 (by omega),Z5 (by rw [Jl];omega),Zct _ (by omega),Option.bind_some,
  Z5 (by rw [hl1];simp only [List.length_cons,List.length_nil];omega),Z5 (by omega),Z5 (by rw [List.length_append,hl1,hl2];simp only [List.length_cons,List.length_nil];omega),
  Zey hp.2,Option.bind_some]
 have hx:∀ (i:Nat),i<(places (ZU.Design b)).length+2→∃ y,((Jv b).take (YZ (ZU.Design b))++[Xo b (ZY.Place e).toNat,0]++(Jv b).drop (YZ (ZU.Design b)))[i]?=some y:=fun i hi=>⟨_,List.getElem?_eq_getElem (by rw [hln];exact hi)⟩
 have hD:((ZT.Instances (conn (ZU.Design b) p.1 p.2.1 ((ZU.Ye b).length:Int))++[(ZY.Name e,ZY.Cell e,[Yk.net p,((ZU.Ye b).length:Int)],())],ZT.Yh (conn (ZU.Design b) p.1 p.2.1 ((ZU.Ye b).length:Int))++[ZY.Name e],(conn (ZU.Design b) p.1 p.2.1 ((ZU.Ye b).length:Int)).snd.snd):ZT)=ZnH b e p:=by
  rw [hwn]
  rfl
 by_cases hc:YZ (ZU.Design b)≤(ZY.Place e).toNat
 ·have hbk2:Zpi b (ZY.Place e).toNat=(ZY.Place e).toNat+2:=by unfold Zpi;rw [if_neg (by omega)]
  obtain ⟨y,hy⟩:=hx ((ZY.Place e).toNat+2) (by omega)
  rw [if_pos (by omega),V4 (n:=ZY.Place e+2) (by omega) (by omega),show ZY.Place e+2=(((ZY.Place e).toNat+2:Nat):Int) by omega,Yd,hy,Option.bind_some,
   Z5 (by rw [hci,List.length_singleton];omega),Z5 (by rw [hcn,List.length_singleton];omega),hlump,Option.bind_some,Z5 (by rw [List.length_singleton];omega),Int.toNat_natCast,←hbk2,hD]
  refine Eq.trans (congrArg (fun o=>Option.bind o _) hA2) ?_
  rfl
 ·have hbk2:Zpi b (ZY.Place e).toNat=(ZY.Place e).toNat:=by unfold Zpi;rw [if_pos (by omega)]
  obtain ⟨y,hy⟩:=hx (ZY.Place e).toNat (by omega)
  rw [if_neg (by omega),Qd hp.1 hy,Option.bind_some,
   Z5 (by rw [hci,List.length_singleton];omega),Z5 (by rw [hcn,List.length_singleton];omega),hlump,Option.bind_some,Z5 (by rw [List.length_singleton];omega),hD]
  rw [hbk2] at hA2
  refine Eq.trans (congrArg (fun o=>Option.bind o _) hA2) ?_
  rfl
end Go.Proofs.YtdabmnfkcnkkbaaGreatDoor
/-
  Plain laws: a buffer taken away (reference); edits applied: the program and the reference.
-/
namespace Go.Proofs.YtdabmnfkcnkkbaaGreatDoor
set_option linter.unusedVariables false
set_option linter.unusedSimpArgs false
open Go Go.Sx
theorem ZkI {b:ZU} (h:Zap b) (hL:Zig b) {k:Nat} {p:Pl} {m:Int} (hs:sinks (ZU.Design b) (((ZT.Yh (ZU.Design b)).length:Int)-1)=[(k:Int)]) (hp:(places (ZU.Design b))[k]?=some p) (hpi:p.1≠((ZT.Instances (ZU.Design b)).length:Int)-1)
  (hm:∀ x,(ZT.Instances (ZU.Design b))[(ZT.Instances (ZU.Design b)).length-1]?=some x→atI (ZW.Yh x) 0=some m):Zdo b=some (ZjU b k p m):=by
 have hR:=Zi7 h hL hs hp hpi hm
 obtain ⟨hn,x,hx,hl2⟩:=hL.two
 have hmx:=hm x hx
 have hf:=h.ok.1.few
 have hpl:=Qn hf
 have h14:=hf.insts
 have h8:=hf.ports
 have h30:=h.ok.1.2.1.2.1
 have hwn:=h.ok.2.1
 have hk:=(List.getElem?_eq_some_iff.1 hp).1
 have h2:=ZcY (ZU.Design b)
 have hi2:=Zgw hn hx hl2
 have hpos:1≤(ZT.Yh (ZU.Design b)).length:=by
  have:=Jm h.ok.1 (List.mem_of_getElem? hp)
  unfold Zab at this
  omega
 have hx2:atI (ZT.Instances (ZU.Design b)) (((ZT.Instances (ZU.Design b)).length:Int)-1)=some x:=Qd (by omega) (by rw [←hx];congr 1;omega)
 have t1:Int.toNat (((ZT.Instances (ZU.Design b)).length:Int)-1)=(ZT.Instances (ZU.Design b)).length-1:=by omega
 have hset:((List.set (ZT.Instances (ZU.Design b)) ((ZT.Instances (ZU.Design b)).length-1) x,(ZU.Design b).snd):ZT)=ZU.Design b:=by rw [Zam hx]
 have hW1:IntKind.i64.wrap (((ZU.Ye b).length:Int)-1)=(((ZU.Ye b).length-1:Nat):Int):=by rw [V4 (by omega) (by omega)];omega
 have hW2:IntKind.i64.wrap (((Jv b).length:Int)-((ZT.Yo (ZU.Design b)).length:Int))=(YZ (ZU.Design b):Int):=by rw [Jl,V4 (by omega) (by omega)];omega
 have hW3:IntKind.i64.wrap ((YZ (ZU.Design b):Int)-2)=((YZ (ZU.Design b)-2:Nat):Int):=by rw [V4 (by omega) (by omega)];omega
 have hW4:IntKind.i64.wrap (((ZT.Instances (ZU.Design b)).length:Int)-1)=(((ZT.Instances (ZU.Design b)).length-1:Nat):Int):=by rw [V4 (by omega) (by omega)];omega
 have hsk:QE (ZU.Design b) (((ZU.Ye b).length-1:Nat):Int)=some [(k:Int)]:=by
  rw [VI _ _ hf,show (((ZU.Ye b).length-1:Nat):Int)=((ZT.Yh (ZU.Design b)).length:Int)-1 by omega,hs]
 have hx3:atI (ZT.Instances (ZU.Design b)) (((ZT.Instances (ZU.Design b)).length-1:Nat):Int)=some x:=by rw [Yd];exact hx
 have hls:(List.set (Jv b) k (Xo b (YZ (ZU.Design b)-2))).length=(places (ZU.Design b)).length:=by rw [List.length_set,Jl]
 have hdr:List.take ((List.set (Jv b) k (Xo b (YZ (ZU.Design b)-2))).length-YZ (ZU.Design b)) (List.drop (YZ (ZU.Design b)) (List.set (Jv b) k (Xo b (YZ (ZU.Design b)-2))))=List.drop (YZ (ZU.Design b)) (List.set (Jv b) k (Xo b (YZ (ZU.Design b)-2))):=List.take_of_length_le (by rw [List.length_drop];exact Nat.le_refl _)
 have hci:(ZT.Instances (conn (ZU.Design b) p.1 p.2.1 m)).length=(ZT.Instances (ZU.Design b)).length:=Xu
 have hcn:(ZT.Yh (conn (ZU.Design b) p.1 p.2.1 m)).length=(ZT.Yh (ZU.Design b)).length:=by rw [QH]
 have hl1:(List.take (YZ (ZU.Design b)-2) (List.set (Jv b) k (Xo b (YZ (ZU.Design b)-2)))).length=YZ (ZU.Design b)-2:=by rw [List.length_take,hls];omega
 have hl3:(List.drop (YZ (ZU.Design b)) (List.set (Jv b) k (Xo b (YZ (ZU.Design b)-2)))).length=(ZT.Yo (ZU.Design b)).length:=by rw [List.length_drop,hls];omega
 have hins:YZ (unD b p m)=YZ (ZU.Design b)-2:=by
  have hn2:0<(ZT.Instances (conn (ZU.Design b) p.1 p.2.1 m)).length:=by rw [Xu];exact hn
  have hx4:(ZT.Instances (conn (ZU.Design b) p.1 p.2.1 m))[(ZT.Instances (conn (ZU.Design b) p.1 p.2.1 m)).length-1]?=some ((ZT.Instances (conn (ZU.Design b) p.1 p.2.1 m))[(ZT.Instances (conn (ZU.Design b) p.1 p.2.1 m)).length-1]'(by omega)):=List.getElem?_eq_getElem _
  generalize (ZT.Instances (conn (ZU.Design b) p.1 p.2.1 m))[(ZT.Instances (conn (ZU.Design b) p.1 p.2.1 m)).length-1]'(by omega)=x' at hx4
  obtain ⟨y,hy,_,_,hyl,_⟩:=Zeg hx4
  rw [Xu,hx] at hy
  injection hy with hy
  have h5:=Zgw hn2 hx4 (by rw [hyl,←hy,hl2])
  have h6:=Zjl hp m
  unfold unD
  omega
 have hup:(places (unD b p m)).length=(places (ZU.Design b)).length-2:=by
  have h5:=ZcY (unD b p m)
  have h6:(ZT.Yo (unD b p m)).length=(ZT.Yo (ZU.Design b)).length:=Zfj
  omega
 have hA:=Zfe (b:=(ZU.Library b,unD b p m,(ZU.Ye b).take ((ZU.Ye b).length-1),())) (nodes:=(Jv b |>.set k (Xo b (YZ (ZU.Design b)-2))).take (YZ (ZU.Design b)-2)++(Jv b |>.set k (Xo b (YZ (ZU.Design b)-2))).drop (YZ (ZU.Design b))) hR.ok.1.few (by
  show (List.take _ _++List.drop _ _).length=(places (unD b p m)).length
  rw [List.length_append,hl1,hl3,hup];omega) (by
  show (List.take _ _).length≤_
  rw [List.length_take];omega)
 have hnd:ZlC ((Jv b |>.set k (Xo b (YZ (ZU.Design b)-2))).take (YZ (ZU.Design b)-2)++(Jv b |>.set k (Xo b (YZ (ZU.Design b)-2))).drop (YZ (ZU.Design b)))=unN b k:=by
  funext j
  have:=ZsL (l:=(Jv b).set k (Xo b (YZ (ZU.Design b)-2))) (m:=YZ (ZU.Design b)-2) (by omega) j
  rw [show YZ (ZU.Design b)-2+2=YZ (ZU.Design b) by omega] at this
  rw [this]
  unfold unN
  congr 1
  funext i
  rw [Znq (by rw [Jl];exact hk),ZjH]
  rfl
 rw [hnd] at hA
 have hD:((List.take ((ZT.Instances (ZU.Design b)).length-1) (ZT.Instances (conn (ZU.Design b) p.1 p.2.1 m)),List.take ((ZU.Ye b).length-1) (ZT.Yh (conn (ZU.Design b) p.1 p.2.1 m)),(conn (ZU.Design b) p.1 p.2.1 m).snd.snd):ZT)=unD b p m:=by
  unfold unD XQ
  rw [Xu,QH,hwn]
 unfold Zdo
 rw [ZdH h,Option.bind_some,hW1,hsk,Option.bind_some,show atI [(k:Int)] 0=some (k:Int) from rfl,Option.bind_some,hW2,hW3,Yd,ZgE (by omega),Option.bind_some,Yd,ZgE hk,Option.bind_some,hW4,hx3,Option.bind_some,
  show x.snd.snd.fst=ZW.Yh x from rfl,hmx,Option.bind_some]
 simp only [Int.toNat_natCast,Int.toNat_zero,Nat.sub_zero,List.drop_zero]
 rw [hset,XJ _ hf,Option.bind_some,Yd,hp,Option.bind_some,Zey hp,Option.bind_some,Z5 (by omega),Z5 (by rw [hls];omega),Zct _ (by omega),Option.bind_some,
  Z5 (by omega),Z5 (by rw [hls];omega),Z5 (by omega),hdr,Z5 (by rw [hl1,hl3];omega),Z5 (by omega),Z5 (by rw [hci];omega),Z5 (by omega),Z5 (by rw [hcn];omega),Z5 (by omega),hD]
 refine Eq.trans (congrArg (fun o=>Option.bind o _) hA) ?_
 rfl
def Lens (b:ZU) (e:ZY) (r:ZU):Prop:=(places (ZU.Design r)).length+(if ZY.Kind e=3 then 2 else 0)=(places (ZU.Design b)).length+(if ZY.Kind e=2 then 2 else 0)
theorem ZqF (d:ZT) (x:ZW) (s:List UInt8):(places (addInst d x s)).length=(places d).length+(ZW.Yh x).length:=by
 rw [Zea,List.length_append,List.length_append,QB]
 unfold places
 rw [List.length_append]
 omega
theorem Ztp {b:ZU} (h:Zap b) {e:ZY} {k:Nat} {p:Pl} (hp:(places (ZU.Design b))[k]?=some p):(places (ZnH b e p)).length=(places (ZU.Design b)).length+2:=by
 rw [Zfh hp,X3 (ZgR h hp),List.length_set,ZqF]
 rfl
theorem ZoS {b:ZU} {e:ZY} {r:ZU} (h2:ZY.Kind e≠2) (h3:ZY.Kind e≠3) (h:(places (ZU.Design r)).length=(places (ZU.Design b)).length):Lens b e r:=by
 unfold Lens
 rw [if_neg h2,if_neg h3,h]
theorem ZqJ {b:ZU} {e:ZY} (h:ZkS b e) (he:sm QZ e):∃ r,Zaw e b=some r∧ZcE b e=some r∧Zap r∧ZU.Library r=ZU.Library b∧Lens b e r:=by
 have hB:=h.blk
 have hf:=hB.ok.1.few
 have hwn:=hB.ok.2.1
 obtain ⟨b1,b2,b3⟩:=Zah hB.sm
 unfold Zaw ZcE
 rw [ZhQ _ hB.sm,Option.bind_some,Zo9 _ hB.sm,Option.bind_some,XJ _ hf,Option.bind_some]
 by_cases k1:ZY.Kind e=1
 ·obtain ⟨p,x,c,c2,hp,h0,hd,hx,hc,hc2,ha⟩:=h.poss.1 k1
  obtain ⟨_,hcr⟩:=h.range.1 (.inl k1)
  have hx2:(ZT.Instances (ZU.Design b))[p.1.toNat]?=some x:=by
   unfold atI at hx
   rw [if_pos h0] at hx
   exact hx
  obtain ⟨⟨hxc,_⟩,_,_⟩:=hB.ok.1.2.2.1 x (List.mem_of_getElem? hx2)
  have hc3:(Z7.Cells (ZU.Library b))[(ZW.Cell x).toNat]?=some c:=by
   unfold atI at hc
   rw [if_pos hxc] at hc
   exact hc
  have hc4:(Z7.Cells (ZU.Library b))[(ZY.Cell e).toNat]?=some c2:=by
   unfold atI at hc2
   rw [if_pos hcr.1] at hc2
   exact hc2
  have hR:=Zqq hB h0 hx2 hc3 hc4 hcr (ZqG (Jp (Zmw b1) hc3) (Jp (Zmw b1) hc4) ha)
  rw [if_pos k1,if_pos k1,YO _ hf,Option.bind_some,hp.at,Option.bind_some]
  have e1:Yw.instance p=p.1:=rfl
  have e2:Yk.instance p=p.1:=rfl
  simp only [e1,e2,hx,Option.bind_some]
  refine ⟨swapped b p.1 (ZY.Cell e),?_,?_,hR,rfl,ZoS (by omega) (by omega) ?_⟩
  ·unfold swapped;rw [hx2]
  ·unfold swapped;rw [hx2]
  ·unfold swapped;rw [hx2];exact congrArg List.length (ZhH hx2 _)
 rw [if_neg k1,if_neg k1]
 by_cases k2:ZY.Kind e=2
 ·obtain ⟨p,c,hp,hd,_⟩:=h.poss.2.1 k2
  have hs:=(Zoh he).1
  rw [if_pos k2,if_pos k2,Zmb h k2 hs hp hd,Zmy h k2 hs hp hd]
  exact ⟨_,rfl,rfl,ZhJ h k2 hs hp,rfl,by unfold Lens;rw [if_neg (by omega),if_pos k2];exact Ztp hB hp.2⟩
 rw [if_neg k2,if_neg k2]
 by_cases k3:ZY.Kind e=3
 ·have hL:=h.poss.2.2.1 k3
  obtain ⟨k,p,m,v,hs,hp,hpi,hm,hv,hun⟩:=Zkl hB hL
  have hR:=Zi7 hB hL hs hp hpi hm
  rw [if_pos k3,if_pos k3,hun,ZkI hB hL hs hp hpi hm]
  obtain ⟨hn,x,hx,hl2⟩:=hL.two
  have hn2:0<(ZT.Instances (conn (ZU.Design b) p.1 p.2.1 m)).length:=by rw [Xu];exact hn
  have hx4:(ZT.Instances (conn (ZU.Design b) p.1 p.2.1 m))[(ZT.Instances (conn (ZU.Design b) p.1 p.2.1 m)).length-1]?=some ((ZT.Instances (conn (ZU.Design b) p.1 p.2.1 m))[(ZT.Instances (conn (ZU.Design b) p.1 p.2.1 m)).length-1]'(by omega)):=List.getElem?_eq_getElem _
  generalize (ZT.Instances (conn (ZU.Design b) p.1 p.2.1 m))[(ZT.Instances (conn (ZU.Design b) p.1 p.2.1 m)).length-1]'(by omega)=x' at hx4
  obtain ⟨y,hy,_,_,hyl,_⟩:=Zeg hx4
  rw [Xu,hx] at hy
  injection hy with hy
  have h5:=Zgw hn2 hx4 (by rw [hyl,←hy,hl2])
  have h6:=Zjl hp m
  have hins:YZ (unD b p m)=YZ (ZU.Design b)-2:=by unfold unD;omega
  refine ⟨ZjU b k p m,by rw [hins,hv];rfl,rfl,hR,rfl,?_⟩
  have h7:=congrArg List.length (Zg1 (s:=[]) hn2 hx4)
  rw [ZqF,hyl,←hy,hl2,X3 hp,List.length_set] at h7
  unfold Lens
  rw [if_pos k3,if_neg (by omega)]
  exact h7.symm
 rw [if_neg k3,if_neg k3]
 by_cases k4:ZY.Kind e=4
 ·obtain ⟨p,hp,hd,hne⟩:=h.poss.2.2.2.1 k4
  obtain ⟨_,hn,w,hw,hnode⟩:=h.range.2.1 k4
  have hk:=(List.getElem?_eq_some_iff.1 hp.2).1
  have hR:=ZsK hB hp.2 hd hn (v:=ZY.Node e) (fun w' hw'=>by rw [hw] at hw';injection hw' with hw';rw [←hw'];exact hnode)
  rw [if_pos k4,if_pos k4,Zeo hB,Option.bind_some,YO _ hf,Option.bind_some,hp.at,Option.bind_some,ZdH hB,Option.bind_some,Qd hp.1 (ZgE hk),Option.bind_some,Option.bind_some,Zey hp.2,Option.bind_some,
   show (Yw.instance p,Yw.pin p,())=(p.1,p.2.1,()) from rfl,Ze9 hp.2,Option.bind_some]
  refine ⟨moved b (ZY.Place e).toNat p (ZY.Net e) (ZY.Node e),?_,?_,hR,rfl,ZoS k2 k3 (by show (places (conn _ _ _ _)).length=_;rw [X3 hp.2,List.length_set])⟩
  ·exact congrArg (fun o=>Option.bind o fun connect0=>some connect0) (ZnY hB hp.2 hd hn (v:=ZY.Node e))
  ·exact congrArg (fun o=>Option.bind o fun l08Attach0=>some l08Attach0) (Zoj hB hp.2 (ZY.Net e) (ZY.Node e))
 ·have k5:ZY.Kind e=5:=by have:=h.blank;unfold Blank at this;omega
  have hn:=h.range.2.2 k5
  obtain ⟨w,hw1,hw2,_⟩:=ZjW hB hn
  have hsw:=(Zoh he).2
  have hR:=ZrZ hB hn (h.poss.2.2.2.2 k5) hsw
  rw [if_neg k4,if_neg k4,if_pos k5,if_pos k5,ZeH _ hsw,Option.bind_some,ZgO _ hsw,Option.bind_some,hw2,Option.bind_some]
  exact ⟨Zth b (ZY.Net e) (ZY.Zc9 e),rfl,rfl,hR,rfl,ZoS k2 k3 rfl⟩
theorem Zsb {b:ZU} {e:ZY} (h:ZkS b e) (he:sm QZ e):∃ r,Zaw e b=some r∧ZcE b e=some r∧Zap r∧ZU.Library r=ZU.Library b:=by
 obtain ⟨r,h1,h2,h3,h4,_⟩:=ZqJ h he
 exact ⟨r,h1,h2,h3,h4⟩
end Go.Proofs.YtdabmnfkcnkkbaaGreatDoor
/-
  Plain laws: what a list's numbers are, sorted and each once.
-/
namespace Go.Proofs.YtdabmnfkcnkkbaaGreatDoor
set_option linter.unusedVariables false
set_option linter.unusedSimpArgs false
open Go Go.Sx
theorem ZtM {l:List Int} {x:Int}:x∈srt l↔x∈l:=List.mem_mergeSort
theorem ZrN (l:List Int):(srt l).length=l.length:=List.length_mergeSort _
theorem Zrm {l:List Int} {x:Int}:x∈Zja l↔x∈l:=by
 unfold Zja Lib.compactUpTo
 rw [List.mem_map]
 constructor
 ·rintro ⟨j,hj,rfl⟩
  have hj:=List.mem_range.1 (List.mem_filter.1 hj).1
  rw [getElem!_pos _ j hj]
  exact List.getElem_mem (by simpa using hj)
 ·intro h
  obtain ⟨j,hj,e⟩:=List.getElem_of_mem h
  have key:∀ (n j:Nat),j≤n→(hj:j<l.length)→l[j]=x→∃ a,a∈(List.range l.toArray.size).filter (Lib.keeps l.toArray)∧l.toArray[a]! = x:=by
   intro n
   induction n with
   | zero =>
    intro j hn hj e
    have:j=0:=by omega
    subst this
    refine ⟨0,List.mem_filter.2 ⟨List.mem_range.2 (by simpa using hj),by unfold Lib.keeps;simp⟩,?_⟩
    rw [getElem!_pos _ 0 (by simpa using hj)]
    exact e
   | succ n ih =>
    intro j hn hj e
    have e2:l.toArray[j]! = x:=by rw [getElem!_pos _ j (by simpa using hj)];exact e
    by_cases hk:Lib.keeps l.toArray j=true
    ·exact ⟨j,List.mem_filter.2 ⟨List.mem_range.2 (by simpa using hj),hk⟩,e2⟩
    ·unfold Lib.keeps at hk
     have hk2:¬(j=0∨l.toArray[j]!≠l.toArray[j-1]!):=fun q=>hk (decide_eq_true q)
     have hj0:j≠0:=fun q=>hk2 (.inl q)
     have he:l.toArray[j]! = l.toArray[j-1]! := Decidable.byContradiction fun q=>hk2 (.inr q)
     refine ih (j-1) (by omega) (by omega) ?_
     rw [e2,getElem!_pos _ (j-1) (by simp only [List.size_toArray];omega)] at he
     exact he.symm
  exact key j j (Nat.le_refl _) hj e
theorem Zsg (l:List Int):(Zja l).length≤l.length:=ZkX l
end Go.Proofs.YtdabmnfkcnkkbaaGreatDoor
/-
  Plain laws: the nodes that an edit makes dirty; the law FnExactDirtyNodes.
-/
namespace Go.Proofs.YtdabmnfkcnkkbaaGreatDoor
set_option linter.unusedVariables false
set_option linter.unusedSimpArgs false
open Go Go.Sx
theorem Zh7 (l:List Int) (x:Int) (hl:l.length≤1048576):Xj l x=some (decide (x∈l)):=by
 have hL:Len l:=by unfold Len;omega
 unfold Xj XU
 rw [VG (l:=l) hL (p:=fun y=>decide (x=y)) (out:=fun i=>i) (step:=fun v=>Y8 l x v.1)
  (fun k y hy=>by
   have hk:=(List.getElem?_eq_some_iff.1 hy).1
   simp only [Y8,show (k:Int)<(l.length:Int) from by omega,if_true,Yd,hy,Option.bind_some,decide_eq_true_eq]
   split<;>rfl)
  (by simp only [Y8,Int.lt_irrefl,if_false]),Option.bind_some]
 congr 1
 apply Bool.eq_iff_iff.2
 rw [decide_eq_true_iff,decide_eq_true_iff,VN]
 simp
theorem ZmA (l:List Int) (x:Int) (hl:l.length≤1048576):Zc6 l x=some (decide (x∈l)):=by
 have hL:Len l:=by unfold Len;omega
 unfold Zc6
 rw [VG (l:=l) hL (p:=fun y=>decide (y=x)) (out:=fun i=>decide (0≤i)) (step:=fun v=>Vl l x v.1)
  (fun k y hy=>by
   have hk:=(List.getElem?_eq_some_iff.1 hy).1
   simp only [Vl,show (k:Int)<(l.length:Int) from by omega,if_true,Yd,hy,Option.bind_some,decide_eq_true_eq]
   split
   ·rw [show decide ((0:Int)≤(k:Int))=true from decide_eq_true (by omega)]
   ·rfl)
  (by simp only [Vl,Int.lt_irrefl,if_false];rfl)]
 congr 1
 apply Bool.eq_iff_iff.2
 rw [decide_eq_true_iff,decide_eq_true_iff,VN]
 simp
theorem Zqu {b:ZU} {e:ZY} (h:ZkS b e):∃ l l',Ju b e=some l∧Vi e b=some l'∧(∀ x,x∈l'↔x∈l)∧l.length≤1048576∧l'.length≤1048576:=by
 have hf:=h.blk.ok.1.few
 have hw:(ZU.Ye b).length=(ZT.Yh (ZU.Design b)).length:=h.blk.ok.2.1
 have fin:∀ l:List Int,0<l.length→l.length≤1048576→∃ l',((ZqD l).bind fun s=>(Zf8 s).bind fun c=>some c)=some l'∧(∀ x,x∈l'↔x∈l)∧l'.length≤1048576:=by
  intro l h0 h1
  refine ⟨Zja (srt l),?_,fun x=>by rw [Zrm,ZtM],?_⟩
  ·unfold ZqD Zf8
   rw [if_pos (by omega),Option.bind_some,if_pos (by rw [ZrN];exact h0)]
   rfl
  ·have:=Zsg (srt l)
   rw [ZrN] at this
   omega
 unfold Ju Vi
 simp only [XJ _ hf,YO _ hf,Option.bind_some]
 by_cases k1:ZY.Kind e=1
 ·obtain ⟨p,x,c,c2,hp,h0,hd,hx,_⟩:=h.poss.1 k1
  have hx2:=hx
  have hxl:(ZT.Instances (ZU.Design b))[p.1.toNat]?=some x:=by
   obtain ⟨x',h1,h2⟩:=ZmS hp.mem h0
   have:=Qd h0 h1
   rw [hx] at this;injection this with this;rw [this];exact h1
  have h5:=hf.nets x (List.mem_of_getElem? hxl)
  have hpos:0<(ZW.Yh x).length:=by
   obtain ⟨i,j,x',n,h1,h2,h3,h4⟩ | ⟨j,q,h1,h2,h3⟩:=Vp hp.2
   ·have hi:p.1=(i:Int):=by rw [h4];rfl
    rw [hi,Int.toNat_natCast] at hxl
    rw [hxl] at h1;injection h1 with h1;subst h1
    have:=(List.getElem?_eq_some_iff.1 h2).1
    omega
   ·rw [h3] at h0;exact absurd (show (0:Int)≤-1 from h0) (by decide)
  obtain ⟨l',f1,f2,f3⟩:=fin (ZW.Yh x) hpos (by omega)
  have hcl:Yn (ZW.Yh x)=some (ZW.Yh x):=J4 _ (by omega)
  rw [if_pos k1,if_pos k1,hp.at,Option.bind_some,Option.bind_some,show atI (ZT.Instances (ZU.Design b)) (Yk.instance p)=some x from hx,Option.bind_some,Option.bind_some,hcl,Option.bind_some]
  exact ⟨_,l',rfl,f1,f2,by omega,f3⟩
 rw [if_neg k1,if_neg k1]
 by_cases k2:ZY.Kind e=2
 ·obtain ⟨p,c,hp,hd,_⟩:=h.poss.2.1 k2
  obtain ⟨l',f1,f2,f3⟩:=fin [p.2.2.1,((ZT.Yh (ZU.Design b)).length:Int)] (by simp) (by simp)
  rw [if_pos k2,if_pos k2,hp.at,Option.bind_some,Option.bind_some,hw,show Xe (ZT.Yh (ZU.Design b))=some ((ZT.Yh (ZU.Design b)).length:Int) from rfl,Option.bind_some]
  exact ⟨_,l',rfl,f1,f2,by simp,f3⟩
 rw [if_neg k2,if_neg k2]
 by_cases k3:ZY.Kind e=3
 ·obtain ⟨hn,x,hx,hx2⟩:=h.last k3
  have h14:=hf.insts
  obtain ⟨y,hy⟩:∃ y,(ZW.Yh x)[0]?=some y:=⟨_,List.getElem?_eq_getElem (by omega)⟩
  have e1:atI (ZT.Instances (ZU.Design b)) (IntKind.i64.wrap (((ZT.Instances (ZU.Design b)).length:Int)-1))=some x:=by
   rw [V4 (by omega) (by omega)]
   exact Qd (by omega) (by rw [show (((ZT.Instances (ZU.Design b)).length:Int)-1).toNat=(ZT.Instances (ZU.Design b)).length-1 by omega];exact hx)
  have e2:atI (ZW.Yh x) 0=some y:=Qd (by omega) hy
  obtain ⟨l',f1,f2,f3⟩:=fin [y] (by simp) (by simp)
  rw [if_pos k3,if_pos k3,e1,Option.bind_some,Option.bind_some,e2,Option.bind_some,Option.bind_some]
  exact ⟨_,l',rfl,f1,f2,by simp,f3⟩
 rw [if_neg k3,if_neg k3]
 by_cases k4:ZY.Kind e=4
 ·obtain ⟨p,hp,hd,hne⟩:=h.poss.2.2.2.1 k4
  obtain ⟨l',f1,f2,f3⟩:=fin [p.2.2.1,ZY.Net e] (by simp) (by simp)
  rw [if_pos k4,if_pos k4,hp.at,Option.bind_some,Option.bind_some]
  exact ⟨_,l',rfl,f1,f2,by simp,f3⟩
 rw [if_neg k4,if_neg k4]
 have k5:ZY.Kind e=5:=by have:=h.blank;unfold Blank at this;omega
 obtain ⟨l',f1,f2,f3⟩:=fin [ZY.Net e] (by simp) (by simp)
 rw [if_pos k5]
 exact ⟨_,l',rfl,f1,f2,by simp,f3⟩
noncomputable def Zhs (nets:List Int) (k:Nat) (p:Pl):List Int:=if p.2.2.1∈nets then [2*(k:Int),2*(k:Int)+1] else []
noncomputable def ZuS (r:ZU) (nets:List Int):List Int:=cat (Zhs nets) 0 (places (ZU.Design r))
theorem ZmK {nets:List Int} {k:Nat} {p:Pl} (h:p.2.2.1∈nets):Zhs nets k p=[2*(k:Int),2*(k:Int)+1]:=if_pos h
theorem ZmJ {nets:List Int} {k:Nat} {p:Pl} (h:¬p.2.2.1∈nets):Zhs nets k p=[]:=if_neg h
theorem Zp2 (nets:List Int) (k:Nat) (p:Pl):(Zhs nets k p).length≤2:=by
 unfold Zhs;split<;>simp
theorem Zsm {b:ZU} {e:ZY} (h:ZkS b e) (he:sm QZ e):∃ l,Ji e b=some l∧Za8 b e=some l∧l.length≤200:=by
 obtain ⟨r,r1,r2,r3,_⟩:=Zsb h he
 have hf:=r3.ok.1.few
 have hpl:=Qn hf
 obtain ⟨l,l',h1,h2,h3,h4,h5⟩:=Zqu h
 have hcl:∀ k,(cat (Zhs l) 0 ((places (ZU.Design r)).take k)).length≤2*78:=fun k=>by
  refine Nat.le_trans (Zgp (c:=2) (fun j x _=>Zp2 l j x)) ?_
  rw [List.length_take];omega
 unfold Ji Za8
 rw [h1,h2,r1,r2,Option.bind_some,Option.bind_some,Option.bind_some,Option.bind_some,YO _ hf,XJ _ hf,Option.bind_some,Option.bind_some]
 refine ⟨ZuS r l,?_,?_,?_⟩
 ·refine J2 (l:=places (ZU.Design r)) (Zhs l) [] (fun k x hx hk=>?_) ?_
  ·have hg:∀ p q:Int,(([]++cat (Zhs l) 0 ((places (ZU.Design r)).take k)).length+[p,q].length)*8≤140737488355328:=fun p q=>by
    rw [List.nil_append];have:=hcl k;simp only [List.length_cons,List.length_nil];omega
   have hq:(Yw.net x∈l')=(x.2.2.1∈l):=propext (h3 _)
   simp only [QI,show (k:Int)<((places (ZU.Design r)).length:Int) from by omega,if_true,Yd,hx,Option.bind_some,Zh7 l' _ h5,decide_eq_true_eq,hq,Vm (show k≤1048576 by omega),V4 (show (-9223372036854775808:Int)≤2*(k:Int) by omega) (by omega),V4 (show (-9223372036854775808:Int)≤2*(k:Int)+1 by omega) (by omega)]
   by_cases c:x.2.2.1∈l
   ·rw [if_pos c,ZmK c,Z5 (hg _ _)]
   ·rw [if_neg c,ZmJ c,List.append_nil]
  ·simp only [QI,Int.lt_irrefl,if_false,List.nil_append]
   rfl
 ·refine J2 (l:=places (ZU.Design r)) (Zhs l) [] (fun k x hx hk=>?_) ?_
  ·have hg:∀ p q:Int,(([]++cat (Zhs l) 0 ((places (ZU.Design r)).take k)).length+[p,q].length)*8≤140737488355328:=fun p q=>by
    rw [List.nil_append];have:=hcl k;simp only [List.length_cons,List.length_nil];omega
   have hq:(Yk.net x∈l)=(x.2.2.1∈l):=rfl
   simp only [Vu,show (k:Int)<((places (ZU.Design r)).length:Int) from by omega,if_true,Yd,hx,Option.bind_some,ZmA l _ h4,decide_eq_true_eq,hq,Vm (show k≤1048576 by omega),V4 (show (-9223372036854775808:Int)≤2*(k:Int) by omega) (by omega),V4 (show (-9223372036854775808:Int)≤2*(k:Int)+1 by omega) (by omega)]
   by_cases c:x.2.2.1∈l
   ·rw [if_pos c,ZmK c,Z5 (hg _ _)]
   ·rw [if_neg c,ZmJ c,List.append_nil]
  ·simp only [Vu,Int.lt_irrefl,if_false,List.nil_append]
   rfl
 ·have:=hcl (places (ZU.Design r)).length
  rw [List.take_length] at this
  exact Nat.le_trans this (by omega)
theorem Zna (b:ZU) (e:ZY) (hb:sm Xg b) (he:sm QZ e):∃ r,Jh b e=some r∧Jq b e=some r∧r.1.length≤1048576:=by
 obtain ⟨c,h1,h2,h3⟩:=ZoL b e hb he
 unfold Jh Jq
 rw [h1,h2,Option.bind_some,Option.bind_some]
 by_cases hc:c=0
 ·obtain ⟨l,l1,l2,l3⟩:=Zsm (h3 hc) he
  rw [if_pos hc,if_pos hc,l1,l2]
  exact ⟨_,rfl,rfl,by show l.length≤_;omega⟩
 ·rw [if_neg hc,if_neg hc]
  exact ⟨_,rfl,rfl,by simp⟩
theorem Zfb (a0:ZU) (a1:ZY) (b0:bnd Xg a0) (b1:bnd QZ a1):Qs a0 a1=some true:=by
 unfold Qs
 obtain ⟨n,e,hle,hP⟩:=Zlk a0 1048576 (by omega) (by omega) b0
 rw [e,Option.bind_some]
 by_cases hn:n<0
 ·rw [if_pos hn]
 rw [if_neg hn]
 have hs:=hP (by omega)
 have ht:=Zkr a0 1048576 (by omega) (by omega) b0 n e (by omega)
 obtain ⟨n1,e1,hle1,hP1⟩:=Zmn a1 n (by omega) (by omega) b1
 rw [e1,Option.bind_some]
 by_cases hn1:n1<0
 ·rw [if_pos hn1]
 rw [if_neg hn1]
 have hs1:=hP1 (by omega)
 have ht1:=Zln a1 n (by omega) (by omega) b1 n1 e1 (by omega)
 have hcb:=Zq6 a0 (by omega)
 have hte:=ZsY a1
 have hcw:=Zsr (ZY.Zc9 a1) (by omega)
 obtain ⟨r,c1,c2,c3⟩:=Zna a0 a1 hs hs1
 obtain ⟨m0,hm0⟩:=Zjt a0 1 hs (by omega) (by omega)
 obtain ⟨m1,hm1⟩:=Zko a1 (1+((cnt Xg a0:Nat):Int)) hs1 (by omega) (by have:(cnt Xr a1.2.2.2.2.2.2.1)=cnt Xr (ZY.Zc9 a1):=rfl;omega)
 obtain ⟨m3,hm3,hm4⟩:=Zsv r.1 c3
 have hr:=Zu7 r.1 (by omega)
 have hneg:¬(1+((cnt Xg a0:Nat):Int)+((cnt Xr a1.2.2.2.2.2.2.1:Nat):Int))<0:=by omega
 have hneg2:¬(1+(r.1.length:Int))<0:=by omega
 simp only [Zls _ hs,Zms _ hs1,Option.bind_some,c1,c2,XA _ hr,Zle _ hs,Zmi _ hs1,if_true,hm0,hm1,hm3,hm4,hneg,hneg2,if_false]
end Go.Proofs.YtdabmnfkcnkkbaaGreatDoor
