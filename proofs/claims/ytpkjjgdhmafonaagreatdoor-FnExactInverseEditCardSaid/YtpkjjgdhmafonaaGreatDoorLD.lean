/-
  Plain laws: marks are held.
-/
import Derived.Test.YtpkjjgdhmafonaaGreatDoorLA
import Derived.Test.YtpkjjgdhmafonaaGreatDoorLB
import Derived.Test.YtpkjjgdhmafonaaGreatDoorLC
namespace Go.Proofs.YtpkjjgdhmafonaaGreatDoor
set_option linter.unusedVariables false
set_option linter.unusedSimpArgs false
open Go Go.Sx
theorem smInts (l:List Int) (hl:(l.length:Int)≤1048576):sm (.sl (.int .i64)) l:=⟨hl,fun x _=>trivial⟩
theorem cnt_ints (l:List Int):cnt (.sl (.int .i64)) l=l.length:=by
 show (l.map (cnt (.int .i64))).sum=_
 induction l with
 | nil=>rfl
 | cons x r ih=>simp only [List.map_cons,List.sum_cons,ih,List.length_cons,cnt_int];omega
theorem few_block (a:TBlock) (h:tot tBlock a≤1048576):cnt tBlock a≤100+20*1048576:=by
 have hc:=cnt_le tBlock a
 have h1:wid tBlock≤100:=by decide
 have h2:widest tBlock≤20:=by decide
 have:=Nat.mul_le_mul_right (tot tBlock a) h2
 omega
end Go.Proofs.YtpkjjgdhmafonaaGreatDoor
/-
  Plain laws: marks, exactly; marks are held. Printed by program (heldgen.py).
-/
namespace Go.Proofs.YtpkjjgdhmafonaaGreatDoor
open Go Go.Sx
set_option linter.unusedVariables false
set_option linter.unusedSimpArgs false
noncomputable def mt (k:Int):List UInt8:=(laws_markText k).getD []
theorem markStepE {α:Type} {L:List α} {j:Nat} {z z':α} {A A' B B':Int} (hA:A=A') (hB:B=B') (hz:z=z'):(some (.inl (A,B,List.set L j z,())):Option ((Int×Int×List α×Unit) ⊕ (Int×List α)))=some (.inl (A',B',List.set L j z',())):=by rw [hA,hB,hz]
theorem heldStepE {A A' B B':Int} (hA:A=A') (hB:B=B'):(some (.inl (A,B,())):Option ((Int×Int×Unit) ⊕ Int))=some (.inl (A',B',())):=by rw [hA,hB]
theorem laws_markInt64S_eq (l:List (Int)) (k:Int) (hs:sm (.sl (.int .i64)) l) (h0:0≤k) (h1:k+((cnt (.sl (.int .i64)) l:Nat):Int)≤4611686018427387904):laws_markInt64S l k=some (k+((cnt (.sl (.int .i64)) l:Nat):Int),mkL (mkA mt (.int .i64)) (cnt (.int .i64)) l k):=by
 unfold laws_markInt64S
 have hl:l.length≤1048576:=by have:=hs.1;omega
 refine mkLoop (f:=mkA mt (.int .i64)) (c:=cnt (.int .i64)) (fun j m x L hj hj' hx hxm hm0 hm1 hj2=>?_) (fun m L=>?_) hl h0 h1
 ·have hsx:=hs.2 x hxm
  have hc:((cnt (.int .i64) x:Nat):Int)=0+1:=by rfl
  simp (disch:=omega) only [laws_markInt64S_loop0,if_pos hj',atI_nat,hx,Option.bind_some,W_in,Int.toNat_natCast,atI_set,List.length_set,List.set_set,List.getElem?_set_self]
  refine markStepE ?_ ?_ rfl
  ·have hc:=hc;omega
  ·omega
 ·simp only [laws_markInt64S_loop0,Int.lt_irrefl,if_false]
theorem laws_markWire_eq (a:TWire) (k:Int) (hs:sm (tWire) a) (h0:0≤k) (h1:k+((cntT (tWire) a:Nat):Int)≤4611686018427387904):laws_markWire a k=some (k+((cntT (tWire) a:Nat):Int),mkT mt (tWire) a k):=by
 unfold laws_markWire
 have hc:((cntT (tWire) a:Nat):Int)=0+(((cnt (.sl (.int .i64)) a.1):Nat):Int)+(((cnt (.sl (.int .i64)) a.2.1):Nat):Int)+(((cnt (.sl (.int .i64)) a.2.2.1):Nat):Int)+(((cnt (.sl (.int .i64)) a.2.2.2.1):Nat):Int):=by simp only [cntT];omega
 have e0:=laws_markInt64S_eq a.1 (k) hs.1 (by omega) (by omega)
 have e1:=laws_markInt64S_eq a.2.1 (k+(((cnt (.sl (.int .i64)) a.1):Nat):Int)) hs.2.1 (by omega) (by omega)
 have e2:=laws_markInt64S_eq a.2.2.1 (k+(((cnt (.sl (.int .i64)) a.1):Nat):Int)+(((cnt (.sl (.int .i64)) a.2.1):Nat):Int)) hs.2.2.1 (by omega) (by omega)
 have e3:=laws_markInt64S_eq a.2.2.2.1 (k+(((cnt (.sl (.int .i64)) a.1):Nat):Int)+(((cnt (.sl (.int .i64)) a.2.1):Nat):Int)+(((cnt (.sl (.int .i64)) a.2.2.1):Nat):Int)) hs.2.2.2.1 (by omega) (by omega)
 simp only [Option.bind_some,e0,e1,e2,e3]
 refine congrArg some (Prod.ext (by show _=k+_;rw [hc];omega) rfl)
theorem laws_markEdit_eq (a:TEdit) (k:Int) (hs:sm (tEdit) a) (h0:0≤k) (h1:k+((cntT (tEdit) a:Nat):Int)≤4611686018427387904):laws_markEdit a k=some (k+((cntT (tEdit) a:Nat):Int),mkT mt (tEdit) a k):=by
 unfold laws_markEdit
 have hc:((cntT (tEdit) a:Nat):Int)=0+(((cntT (tWire) a.2.2.2.2.2.2.1):Nat):Int):=by simp only [cntT];omega
 have e6:=laws_markWire_eq a.2.2.2.2.2.2.1 (k) hs.2.2.2.2.2.2.1 (by omega) (by omega)
 simp only [Option.bind_some,e6]
 refine congrArg some (Prod.ext (by show _=k+_;rw [hc,Int.zero_add]) (by simp only [mkT,cntT,Int.natCast_zero,Int.add_zero]))
theorem laws_heldInt64S_eq (l:List (Int)) (k:Int) (hs:sm (.sl (.int .i64)) l) (h0:0≤k) (h1:k+((cnt (.sl (.int .i64)) l:Nat):Int)≤4611686018427387904):laws_heldInt64S (mkL (mkA mt (.int .i64)) (cnt (.int .i64)) l k) k=some (k+((cnt (.sl (.int .i64)) l:Nat):Int)):=by
 unfold laws_heldInt64S
 have hl:l.length≤1048576:=by have:=hs.1;omega
 refine heldLoop (f:=mkA mt (.int .i64)) (c:=cnt (.int .i64)) (step:=fun v=>laws_heldInt64S_loop0 (mkL (mkA mt (.int .i64)) (cnt (.int .i64)) l k) v.1 v.2.1) (fun j m x hj hx hxm hm0 hm1 hj2=>?_) (fun m=>?_) hl h0 h1
 ·have hsx:=hs.2 x hxm
  have hc:((cnt (.int .i64) x:Nat):Int)=0+1:=by rfl
  have f0:mkA mt (.int .i64) x m=m:=rfl
  simp (disch:=omega) only [laws_heldInt64S_loop0,if_pos hj,atI_nat,hx,Option.bind_some,W_in,eq_self,if_true,if_false,beq_self_eq_true,f0]
  refine heldStepE ?_ ?_
  ·have hc:=hc;omega
  ·omega
 ·simp only [laws_heldInt64S_loop0,Int.lt_irrefl,if_false]
theorem laws_heldWire_eq (a:TWire) (k:Int) (hs:sm (tWire) a) (h0:0≤k) (h1:k+((cntT (tWire) a:Nat):Int)≤4611686018427387904):laws_heldWire (mkT mt (tWire) a k) k=some (k+((cntT (tWire) a:Nat):Int)):=by
 unfold laws_heldWire
 have hc:((cntT (tWire) a:Nat):Int)=0+(((cnt (.sl (.int .i64)) a.1):Nat):Int)+(((cnt (.sl (.int .i64)) a.2.1):Nat):Int)+(((cnt (.sl (.int .i64)) a.2.2.1):Nat):Int)+(((cnt (.sl (.int .i64)) a.2.2.2.1):Nat):Int):=by simp only [cntT];omega
 have f0:TWire.Parent (mkT mt (tWire) a k)=mkL (mkA mt (.int .i64)) (cnt (.int .i64)) a.1 (k):=by rfl
 have n0:¬(k+(((cnt (.sl (.int .i64)) a.1):Nat):Int))<0:=by omega
 have e0:=laws_heldInt64S_eq a.1 (k) hs.1 (by omega) (by omega)
 have f1:TWire.Res (mkT mt (tWire) a k)=mkL (mkA mt (.int .i64)) (cnt (.int .i64)) a.2.1 (k+(((cnt (.sl (.int .i64)) a.1):Nat):Int)):=by rfl
 have n1:¬(k+(((cnt (.sl (.int .i64)) a.1):Nat):Int)+(((cnt (.sl (.int .i64)) a.2.1):Nat):Int))<0:=by omega
 have e1:=laws_heldInt64S_eq a.2.1 (k+(((cnt (.sl (.int .i64)) a.1):Nat):Int)) hs.2.1 (by omega) (by omega)
 have f2:TWire.Cap (mkT mt (tWire) a k)=mkL (mkA mt (.int .i64)) (cnt (.int .i64)) a.2.2.1 (k+(((cnt (.sl (.int .i64)) a.1):Nat):Int)+(((cnt (.sl (.int .i64)) a.2.1):Nat):Int)):=by rfl
 have n2:¬(k+(((cnt (.sl (.int .i64)) a.1):Nat):Int)+(((cnt (.sl (.int .i64)) a.2.1):Nat):Int)+(((cnt (.sl (.int .i64)) a.2.2.1):Nat):Int))<0:=by omega
 have e2:=laws_heldInt64S_eq a.2.2.1 (k+(((cnt (.sl (.int .i64)) a.1):Nat):Int)+(((cnt (.sl (.int .i64)) a.2.1):Nat):Int)) hs.2.2.1 (by omega) (by omega)
 have f3:TWire.Sink (mkT mt (tWire) a k)=mkL (mkA mt (.int .i64)) (cnt (.int .i64)) a.2.2.2.1 (k+(((cnt (.sl (.int .i64)) a.1):Nat):Int)+(((cnt (.sl (.int .i64)) a.2.1):Nat):Int)+(((cnt (.sl (.int .i64)) a.2.2.1):Nat):Int)):=by rfl
 have n3:¬(k+(((cnt (.sl (.int .i64)) a.1):Nat):Int)+(((cnt (.sl (.int .i64)) a.2.1):Nat):Int)+(((cnt (.sl (.int .i64)) a.2.2.1):Nat):Int)+(((cnt (.sl (.int .i64)) a.2.2.2.1):Nat):Int))<0:=by omega
 have e3:=laws_heldInt64S_eq a.2.2.2.1 (k+(((cnt (.sl (.int .i64)) a.1):Nat):Int)+(((cnt (.sl (.int .i64)) a.2.1):Nat):Int)+(((cnt (.sl (.int .i64)) a.2.2.1):Nat):Int)) hs.2.2.2.1 (by omega) (by omega)
 simp only [Option.bind_some,if_false,f0,n0,e0,f1,n1,e1,f2,n2,e2,f3,n3,e3]
 refine congrArg some ?_
 omega
theorem laws_heldEdit_eq (a:TEdit) (k:Int) (hs:sm (tEdit) a) (h0:0≤k) (h1:k+((cntT (tEdit) a:Nat):Int)≤4611686018427387904):laws_heldEdit (mkT mt (tEdit) a k) k=some (k+((cntT (tEdit) a:Nat):Int)):=by
 unfold laws_heldEdit
 have hc:((cntT (tEdit) a:Nat):Int)=0+(((cntT (tWire) a.2.2.2.2.2.2.1):Nat):Int):=by simp only [cntT];omega
 have f6:TEdit.Wire (mkT mt (tEdit) a k)=mkT mt (tWire) a.2.2.2.2.2.2.1 (k):=by show mkT mt _ _ _=_;simp only [cntT,Int.natCast_zero,Int.add_zero]
 have n6:¬(k+(((cntT (tWire) a.2.2.2.2.2.2.1):Nat):Int))<0:=by omega
 have e6:=laws_heldWire_eq a.2.2.2.2.2.2.1 (k) hs.2.2.2.2.2.2.1 (by omega) (by omega)
 simp only [Option.bind_some,if_false,f6,n6,e6]
 refine congrArg some ?_
 omega
end Go.Proofs.YtpkjjgdhmafonaaGreatDoor
/-
  Plain laws: edits: what an edit may mention, and when it is possible.
-/
namespace Go.Proofs.YtpkjjgdhmafonaaGreatDoor
set_option linter.unusedVariables false
set_option linter.unusedSimpArgs false
open Go Go.Sx
theorem smEdit {e:TEdit} (h:sm tEdit e):sm .str (TEdit.Name e)∧sm tWire (TEdit.Wire e):=⟨h.2.2.2.2.2.1,h.2.2.2.2.2.2.1⟩
def NoWire (w:TWire):Prop:=TWire.Parent w=[]∧TWire.Res w=[]∧TWire.Cap w=[]∧TWire.Sink w=[]
theorem noWire_tr (w:TWire) (hw:sm tWire w):(some (Decidable.decide (IntKind.i64.wrap (IntKind.i64.wrap (IntKind.i64.wrap ((↑(List.length (TWire.Parent w)):Int)+(↑(List.length (TWire.Res w)):Int))+(↑(List.length (TWire.Cap w)):Int))+(↑(List.length (TWire.Sink w)):Int))=(0:Int))):Option Bool)=some (tr (NoWire w)):=by
 obtain ⟨a1,a2,a3,a4⟩:=smWire hw
 have s1:=small_of_sm a1
 have s2:=small_of_sm a2
 have s3:=small_of_sm a3
 have s4:=small_of_sm a4
 rw [W_in (n:=((TWire.Parent w).length:Int)+((TWire.Res w).length:Int)) (by omega) (by omega),W_in (n:=((TWire.Parent w).length:Int)+((TWire.Res w).length:Int)+((TWire.Cap w).length:Int)) (by omega) (by omega),W_in (by omega) (by omega)]
 refine fin_tr ?_
 rw [decide_eq_true_eq]
 unfold NoWire
 rw [←List.length_eq_zero_iff,←List.length_eq_zero_iff,←List.length_eq_zero_iff,←List.length_eq_zero_iff]
 omega
def Blank (e:TEdit):Prop :=
 (TEdit.Kind e=1∧TEdit.Net e=0∧TEdit.Node e=0∧TEdit.Name e=[]∧NoWire (TEdit.Wire e))∨
 (TEdit.Kind e=2∧TEdit.Net e=0∧TEdit.Node e=0∧NoWire (TEdit.Wire e))∨
 (TEdit.Kind e=3∧TEdit.Place e=0∧TEdit.Cell e=0∧TEdit.Net e=0∧TEdit.Node e=0∧TEdit.Name e=[]∧NoWire (TEdit.Wire e))∨
 (TEdit.Kind e=4∧TEdit.Cell e=0∧TEdit.Name e=[]∧NoWire (TEdit.Wire e))∨
 (TEdit.Kind e=5∧TEdit.Place e=0∧TEdit.Cell e=0∧TEdit.Node e=0∧TEdit.Name e=[])
theorem spec_l08Blank_eq (e:TEdit) (he:sm tEdit e):spec_l08Blank e=some (tr (Blank e)):=by
 have hn:=noWire_tr (TEdit.Wire e) (smEdit he).2
 unfold spec_l08Blank
 rw [hn]
 by_cases k1:TEdit.Kind e=1
 ·rw [if_pos k1]
  refine eq_tr (and_ifP fun _=>and_ifP fun _=>and_ifP fun _=>rfl) ?_
  unfold Blank;grind
 rw [if_neg k1]
 by_cases k2:TEdit.Kind e=2
 ·rw [if_pos k2]
  refine eq_tr (and_ifP fun _=>and_ifP fun _=>rfl) ?_
  unfold Blank;grind
 rw [if_neg k2]
 by_cases k3:TEdit.Kind e=3
 ·rw [if_pos k3]
  refine eq_tr (and_ifP fun _=>and_ifP fun _=>and_ifP fun _=>and_ifP fun _=>and_ifP fun _=>rfl) ?_
  unfold Blank;grind
 rw [if_neg k3]
 by_cases k4:TEdit.Kind e=4
 ·rw [if_pos k4]
  refine eq_tr (and_ifP fun _=>and_ifP fun _=>rfl) ?_
  unfold Blank;grind
 rw [if_neg k4]
 by_cases k5:TEdit.Kind e=5
 ·rw [if_pos k5]
  refine eq_tr (and_ifP fun _=>and_ifP fun _=>and_ifP fun _=>fin_tr decide_eq_true_iff) ?_
  unfold Blank;grind
 ·rw [if_neg k5]
  refine some_false ?_
  unfold Blank;grind
theorem slices_Equal_ints (a b:List Int) (ha:a.length≤1048576):slices_Equal_Sint64_int64 a b=some (tr (a=b)):=by
 unfold slices_Equal_Sint64_int64
 by_cases hl:(a.length:Int)=(b.length:Int)
 ·rw [if_pos hl,loopAll (l:=a) (show Len a by unfold Len;omega) (fun k x=>b[k]?=some x) (bad:=false) (good:=true)
   (fun k x hx hk _=>by
    have hy:b[k]?=some b[k]:=List.getElem?_eq_getElem (by omega)
    simp only [slices_Equal_Sint64_int64_loop0,show (k:Int)<(a.length:Int) from by omega,if_true,atI_nat,hx,hy,Option.bind_some,Option.some.injEq]
    constructor
    ·intro hh;rw [if_pos hh.symm]
    ·intro hh;rw [if_neg (fun q=>hh q.symm)])
   (fun _=>by simp only [slices_Equal_Sint64_int64_loop0,Int.lt_irrefl,if_false]),sel_tr]
  congr 1
  refine tr_congr ⟨fun h=>?_,fun h=>by subst h;exact fun k x hx=>hx⟩
  apply List.ext_getElem?
  intro k
  by_cases hk:k<a.length
  ·rw [h k a[k] (List.getElem?_eq_getElem hk),List.getElem?_eq_getElem hk]
  ·rw [List.getElem?_eq_none (by omega),List.getElem?_eq_none (by omega)]
 ·rw [if_neg hl,tr_neg (fun h=>hl (by rw [h]))]
def SameW (a b:TWire):Prop:=TWire.Parent a=TWire.Parent b∧TWire.Res a=TWire.Res b∧TWire.Cap a=TWire.Cap b∧TWire.Sink a=TWire.Sink b
theorem impl_sameWire_eq (a b:TWire) (ha:sm tWire a):impl_sameWire a b=some (tr (SameW a b)):=by
 obtain ⟨a1,a2,a3,a4⟩:=smWire ha
 have s1:=small_of_sm a1
 have s2:=small_of_sm a2
 have s3:=small_of_sm a3
 have s4:=small_of_sm a4
 unfold impl_sameWire
 exact bind_if (slices_Equal_ints _ _ s1) fun _=>bind_if (slices_Equal_ints _ _ s2) fun _=>bind_if (slices_Equal_ints _ _ s3) fun _=>bind_tr (slices_Equal_ints _ _ s4)
theorem impl_sameEdit_eq (a b:TEdit) (ha:sm tEdit a):impl_sameEdit a b=some (tr (TEdit.Kind a=TEdit.Kind b∧TEdit.Place a=TEdit.Place b∧TEdit.Cell a=TEdit.Cell b∧TEdit.Net a=TEdit.Net b∧TEdit.Node a=TEdit.Node b∧TEdit.Name a=TEdit.Name b∧SameW (TEdit.Wire a) (TEdit.Wire b))):=by
 unfold impl_sameEdit
 exact and_ifP fun _=>and_ifP fun _=>and_ifP fun _=>and_ifP fun _=>and_ifP fun _=>and_ifP fun _=>bind_tr (impl_sameWire_eq _ _ (smEdit ha).2)
theorem own_same (e:TEdit) (he:sm tEdit e):(impl_within (TEdit.Kind e) 1 5=some (tr (1≤TEdit.Kind e∧TEdit.Kind e≤5)))∧∃ o,impl_Edit_own e=some o∧impl_sameEdit e o=some (tr (TEdit.Kind e<1∨5<TEdit.Kind e∨Blank e))∨(¬(1≤TEdit.Kind e∧TEdit.Kind e≤5)):=by
 refine ⟨within_tr _ _ _,?_⟩
 unfold impl_Edit_own
 by_cases k1:TEdit.Kind e=1
 ·rw [if_pos k1]
  refine ⟨_,.inl ⟨rfl,?_⟩⟩
  refine eq_tr (impl_sameEdit_eq e _ he) ?_
  rw [show SameW (TEdit.Wire e) (TEdit.Wire (TEdit.Kind e,TEdit.Place e,TEdit.Cell e,(0:Int),(0:Int),([]:List UInt8),(([]:List Int),([]:List Int),([]:List Int),([]:List Int),()),()))↔NoWire (TEdit.Wire e) from Iff.rfl]
  unfold Blank
  simp only [k1]
  constructor
  ·rintro ⟨_,_,_,a,b,c,d⟩;exact .inr (.inr (.inl ⟨trivial,a,b,c,d⟩))
  ·intro h;grind
 rw [if_neg k1]
 by_cases k2:TEdit.Kind e=2
 ·rw [if_pos k2]
  refine ⟨_,.inl ⟨rfl,?_⟩⟩
  refine eq_tr (impl_sameEdit_eq e _ he) ?_
  rw [show SameW (TEdit.Wire e) (TEdit.Wire (TEdit.Kind e,TEdit.Place e,TEdit.Cell e,(0:Int),(0:Int),TEdit.Name e,(([]:List Int),([]:List Int),([]:List Int),([]:List Int),()),()))↔NoWire (TEdit.Wire e) from Iff.rfl]
  unfold Blank
  simp only [k2]
  constructor
  ·rintro ⟨_,_,_,a,b,c,d⟩;exact .inr (.inr (.inr (.inl ⟨trivial,a,b,d⟩)))
  ·intro h;grind
 rw [if_neg k2]
 by_cases k4:TEdit.Kind e=4
 ·rw [if_pos k4]
  refine ⟨_,.inl ⟨rfl,?_⟩⟩
  refine eq_tr (impl_sameEdit_eq e _ he) ?_
  rw [show SameW (TEdit.Wire e) (TEdit.Wire (TEdit.Kind e,TEdit.Place e,(0:Int),TEdit.Net e,TEdit.Node e,([]:List UInt8),(([]:List Int),([]:List Int),([]:List Int),([]:List Int),()),()))↔NoWire (TEdit.Wire e) from Iff.rfl]
  unfold Blank
  simp only [k4]
  constructor
  ·rintro ⟨_,_,a,_,_,c,d⟩;exact .inr (.inr (.inr (.inr (.inr (.inl ⟨trivial,a,c,d⟩)))))
  ·intro h;grind
 rw [if_neg k4]
 by_cases k5:TEdit.Kind e=5
 ·rw [if_pos k5]
  refine ⟨_,.inl ⟨rfl,?_⟩⟩
  refine eq_tr (impl_sameEdit_eq e _ he) ?_
  rw [show SameW (TEdit.Wire e) (TEdit.Wire (TEdit.Kind e,(0:Int),(0:Int),TEdit.Net e,(0:Int),([]:List UInt8),e.snd.snd.snd.snd.snd.snd))↔True from ⟨fun _=>trivial,fun _=>⟨rfl,rfl,rfl,rfl⟩⟩]
  unfold Blank
  simp only [k5]
  constructor
  ·rintro ⟨_,a,b,_,c,d,_⟩;exact .inr (.inr (.inr (.inr (.inr (.inr ⟨trivial,a,b,c,d⟩)))))
  ·intro h;grind
 rw [if_neg k5]
 by_cases k3:TEdit.Kind e=3
 ·refine ⟨_,.inl ⟨rfl,?_⟩⟩
  refine eq_tr (impl_sameEdit_eq e _ he) ?_
  rw [show SameW (TEdit.Wire e) (TEdit.Wire (TEdit.Kind e,(0:Int),(0:Int),(0:Int),(0:Int),([]:List UInt8),(([]:List Int),([]:List Int),([]:List Int),([]:List Int),()),()))↔NoWire (TEdit.Wire e) from Iff.rfl]
  unfold Blank
  simp only [k3]
  constructor
  ·rintro ⟨_,a,b,c,d,f,g⟩;exact .inr (.inr (.inr (.inr (.inl ⟨trivial,a,b,c,d,f,g⟩))))
  ·intro h;grind
 ·exact ⟨e,.inr (by omega)⟩
end Go.Proofs.YtpkjjgdhmafonaaGreatDoor
/-
  Plain laws: edits: range, possibility, code.
-/
namespace Go.Proofs.YtpkjjgdhmafonaaGreatDoor
set_option linter.unusedVariables false
set_option linter.unusedSimpArgs false
open Go Go.Sx
def RangeOk (b:TBlock) (e:TEdit):Prop :=
 ((TEdit.Kind e=1∨TEdit.Kind e=2)→(0≤TEdit.Place e∧TEdit.Place e≤((places (TBlock.Design b)).length:Int)-1)∧(0≤TEdit.Cell e∧TEdit.Cell e≤((TLibrary.Cells (TBlock.Library b)).length:Int)-1))∧
 (TEdit.Kind e=4→(0≤TEdit.Place e∧TEdit.Place e≤((places (TBlock.Design b)).length:Int)-1)∧IsNet (TBlock.Design b) (TEdit.Net e)∧∃ w,(TBlock.Wires b)[(TEdit.Net e).toNat]?=some w∧(0≤TEdit.Node e∧TEdit.Node e≤((TWire.Parent w).length:Int)-1))∧
 (TEdit.Kind e=5→IsNet (TBlock.Design b) (TEdit.Net e))
theorem wire_at {b:TBlock} (h:BlkSm b) {n:Int} (hn:IsNet (TBlock.Design b) n):∃ w,(TBlock.Wires b)[n.toNat]?=some w∧atI (TBlock.Wires b) n=some w∧WireOk w ((sinks (TBlock.Design b) n).length:Int):=by
 have hwn:=h.ok.2.1
 have hlt:n.toNat<(TBlock.Wires b).length:=by have:=hn.1;have:=hn.2;omega
 have hw:=List.getElem?_eq_getElem hlt
 refine ⟨_,hw,atI_some hn.1 hw,?_⟩
 have this:WireOk _ ((sinks (TBlock.Design b) ((n.toNat:Nat):Int)).length:Int):=h.ok.2.2 n.toNat _ hw
 rwa [show ((n.toNat:Nat):Int)=n by have:=hn.1;omega] at this
theorem cells_small {b:TBlock} (h:BlkSm b):(TLibrary.Cells (TBlock.Library b)).length≤1048576:=small_of_sm (smLib (smBlock h.sm).1)
theorem node_tr {b:TBlock} (h:BlkSm b) (e:TEdit) {w:TWire} (hw:(TBlock.Wires b)[(TEdit.Net e).toNat]?=some w):IntKind.i64.wrap (((TWire.Parent w).length:Int)-1)=((TWire.Parent w).length:Int)-1:=by
 have:=h.ok.2.2 _ _ hw
 have h1:=this.1
 rw [W_in (by omega) (by omega)]
theorem spec_l08Range_eq {b:TBlock} (h:BlkSm b) (e:TEdit) (he:sm tEdit e):spec_l08Range b e=some (tr (RangeOk b e)):=by
 have hD:=h.ok.1
 have hf:=hD.few
 have hpl:=places_len hf
 have hc:=cells_small h
 have hwn:=h.ok.2.1
 have h30:=hD.2.1.2.1
 have e1:IntKind.i64.wrap (((places (TBlock.Design b)).length:Int)-1)=((places (TBlock.Design b)).length:Int)-1:=W_in (by omega) (by omega)
 have e2:IntKind.i64.wrap (((TLibrary.Cells (TBlock.Library b)).length:Int)-1)=((TLibrary.Cells (TBlock.Library b)).length:Int)-1:=W_in (by omega) (by omega)
 have e3:IntKind.i64.wrap (((TBlock.Wires b).length:Int)-1)=((TDesign.Nets (TBlock.Design b)).length:Int)-1:=by rw [W_in (by omega) (by omega)];omega
 have net:(spec_l01In (TEdit.Net e) 0 (((TDesign.Nets (TBlock.Design b)).length:Int)-1))=some (tr (IsNet (TBlock.Design b) (TEdit.Net e))):=l01In_tr _ _ _
 unfold spec_l08Range
 rw [spec_l05Places_eq _ hf,Option.bind_some,e1,e2,e3]
 have pc:((spec_l01In (TEdit.Place e) 0 (((places (TBlock.Design b)).length:Int)-1)).bind fun x=>if x=true then (spec_l01In (TEdit.Cell e) 0 (((TLibrary.Cells (TBlock.Library b)).length:Int)-1)).bind fun y=>some y else some false) =
   some (tr ((0≤TEdit.Place e∧TEdit.Place e≤((places (TBlock.Design b)).length:Int)-1)∧(0≤TEdit.Cell e∧TEdit.Cell e≤((TLibrary.Cells (TBlock.Library b)).length:Int)-1))) :=
  bind_if (l01In_tr _ _ _) fun _=>bind_tr (l01In_tr _ _ _)
 have mv:((spec_l01In (TEdit.Place e) 0 (((places (TBlock.Design b)).length:Int)-1)).bind fun x=>if x=true then (spec_l01In (TEdit.Net e) 0 (((TDesign.Nets (TBlock.Design b)).length:Int)-1)).bind fun y=>if y=true then
    (atI (TBlock.Wires b) (TEdit.Net e)).bind fun w=>(spec_l01In (TEdit.Node e) 0 (IntKind.i64.wrap (((TWire.Parent w).length:Int)-1))).bind fun z=>some z else some false else some false) =
   some (tr ((0≤TEdit.Place e∧TEdit.Place e≤((places (TBlock.Design b)).length:Int)-1)∧IsNet (TBlock.Design b) (TEdit.Net e)∧∃ w,(TBlock.Wires b)[(TEdit.Net e).toNat]?=some w∧(0≤TEdit.Node e∧TEdit.Node e≤((TWire.Parent w).length:Int)-1))):=by
  refine bind_if (l01In_tr _ _ _) fun _=>bind_if net fun hn=>?_
  obtain ⟨w,hw,ha,_⟩:=wire_at h hn
  rw [ha,Option.bind_some,node_tr h e hw]
  refine eq_tr (bind_tr (l01In_tr _ _ _)) ⟨fun q=>⟨w,hw,q⟩,fun ⟨w',hw',q⟩=>?_⟩
  rw [hw] at hw'
  injection hw' with hw'
  subst hw';exact q
 by_cases k1:TEdit.Kind e=1
 ·rw [if_pos k1,if_pos k1]
  refine eq_tr pc ?_
  unfold RangeOk;grind
 rw [if_neg k1]
 by_cases k2:TEdit.Kind e=2
 ·rw [if_pos k2]
  refine eq_tr pc ?_
  unfold RangeOk;grind
 rw [if_neg k2]
 by_cases k4:TEdit.Kind e=4
 ·rw [if_pos k4]
  refine eq_tr mv ?_
  unfold RangeOk;grind
 rw [if_neg k4]
 by_cases k5:TEdit.Kind e=5
 ·rw [if_pos k5]
  refine eq_tr (bind_tr net) ?_
  unfold RangeOk;grind
 ·rw [if_neg k5]
  refine (fin_tr (P:=RangeOk b e) ⟨fun _=>?_,fun _=>rfl⟩)
  unfold RangeOk;grind
theorem impl_isInRange_eq {b:TBlock} (h:BlkSm b) (e:TEdit) (he:sm tEdit e):impl_Edit_isInRange e b=some (tr (Blank e∧RangeOk b e)):=by
 have hD:=h.ok.1
 have hf:=hD.few
 have hpl:=places_len hf
 have hc:=cells_small h
 have hsd:=(smBlock h.sm).2.1
 have e1:IntKind.i64.wrap (((places (TBlock.Design b)).length:Int)-1)=((places (TBlock.Design b)).length:Int)-1:=W_in (by omega) (by omega)
 have e2:IntKind.i64.wrap (((TLibrary.Cells (TBlock.Library b)).length:Int)-1)=((TLibrary.Cells (TBlock.Library b)).length:Int)-1:=W_in (by omega) (by omega)
 obtain ⟨hw,o,ho⟩:=own_same e he
 unfold impl_Edit_isInRange
 rw [hw,Option.bind_some]
 by_cases hk:1≤TEdit.Kind e∧TEdit.Kind e≤5
 ·rw [if_pos (tr_pos hk)]
  rcases ho with ⟨ho1,ho2⟩ | ho
  ·rw [ho1,Option.bind_some,ho2,Option.bind_some]
   by_cases hB:Blank e
   ·rw [if_pos (tr_pos (.inr (.inr hB))),impl_Design_places_eq _ hf,Option.bind_some,show impl_length_impl_place (places (TBlock.Design b))=some ((places (TBlock.Design b)).length:Int) from rfl,Option.bind_some,e1,within_tr,Option.bind_some,
     show impl_length_impl_Cell (TLibrary.Cells (TBlock.Library b))=some ((TLibrary.Cells (TBlock.Library b)).length:Int) from rfl]
    simp only [Option.bind_some,e2]
    have net:=impl_Design_isNet_eq (TBlock.Design b) (TEdit.Net e) hsd
    have pc:(if tr (0≤TEdit.Place e∧TEdit.Place e≤((places (TBlock.Design b)).length:Int)-1)=true then (impl_within (TEdit.Cell e) 0 (((TLibrary.Cells (TBlock.Library b)).length:Int)-1)).bind fun y=>some y else some false) =
      some (tr ((0≤TEdit.Place e∧TEdit.Place e≤((places (TBlock.Design b)).length:Int)-1)∧(0≤TEdit.Cell e∧TEdit.Cell e≤((TLibrary.Cells (TBlock.Library b)).length:Int)-1))) :=
     and_if (bind_tr (within_tr _ _ _))
    by_cases k1:TEdit.Kind e=1
    ·rw [if_pos k1,if_pos k1]
     refine eq_tr pc ?_
     unfold RangeOk;grind
    rw [if_neg k1]
    by_cases k2:TEdit.Kind e=2
    ·rw [if_pos k2]
     refine eq_tr pc ?_
     unfold RangeOk;grind
    rw [if_neg k2]
    by_cases k4:TEdit.Kind e=4
    ·rw [if_pos k4]
     have mv:(if tr (0≤TEdit.Place e∧TEdit.Place e≤((places (TBlock.Design b)).length:Int)-1)=true then (impl_Design_isNet (TBlock.Design b) (TEdit.Net e)).bind fun y=>if y=true then
        (atI (TBlock.Wires b) (TEdit.Net e)).bind fun w=>(impl_length_int64 (TWire.Parent w)).bind fun n=>(impl_within (TEdit.Node e) 0 (IntKind.i64.wrap (n-1))).bind fun z=>some z else some false else some false) =
       some (tr ((0≤TEdit.Place e∧TEdit.Place e≤((places (TBlock.Design b)).length:Int)-1)∧IsNet (TBlock.Design b) (TEdit.Net e)∧∃ w,(TBlock.Wires b)[(TEdit.Net e).toNat]?=some w∧(0≤TEdit.Node e∧TEdit.Node e≤((TWire.Parent w).length:Int)-1))):=by
      by_cases hp:0≤TEdit.Place e∧TEdit.Place e≤((places (TBlock.Design b)).length:Int)-1
      ·rw [if_pos (tr_pos hp)]
       refine eq_tr (bind_if net fun hn=>?_) (P:=IsNet (TBlock.Design b) (TEdit.Net e)∧∃ w,(TBlock.Wires b)[(TEdit.Net e).toNat]?=some w∧(0≤TEdit.Node e∧TEdit.Node e≤((TWire.Parent w).length:Int)-1)) ⟨fun q=>⟨hp,q⟩,fun q=>q.2⟩
       obtain ⟨w,hw,ha,_⟩:=wire_at h hn
       rw [ha,Option.bind_some,impl_length_int64_eq,Option.bind_some,node_tr h e hw]
       refine eq_tr (bind_tr (within_tr _ _ _)) ⟨fun q=>⟨w,hw,q⟩,fun ⟨w',hw',q⟩=>?_⟩
       rw [hw] at hw'
       injection hw' with hw'
       subst hw';exact q
      ·rw [if_neg (fun q=>hp ((tr_iff _).1 q)),tr_neg (fun q=>hp q.1)]
     refine eq_tr mv ?_
     unfold RangeOk;grind
    rw [if_neg k4]
    by_cases k5:TEdit.Kind e=5
    ·rw [if_pos k5]
     refine eq_tr (bind_tr net) ?_
     unfold RangeOk;grind
    ·rw [if_neg k5]
     refine (fin_tr (P:=Blank e∧RangeOk b e) ⟨fun _=>⟨hB,?_⟩,fun _=>rfl⟩)
     unfold RangeOk;grind
   ·rw [if_neg (fun q=>by rcases (tr_iff _).1 q with q | q | q<;>first | omega | exact hB q),tr_neg (fun q=>hB q.1)]
  ·exact absurd hk ho
 ·rw [if_neg (fun q=>hk ((tr_iff _).1 q)),tr_neg (fun q=>?_)]
  have:=q.1
  unfold Blank at this
  omega
theorem alike_eq (a b:TCell) (ha:sm tCell a):impl_fitsSwap a b=spec_l08Alike a b∧∃ r,spec_l08Alike a b=some r:=by
 have s1:(TCell.Pins a).length≤1048576:=by have:=(smCell ha).pins.1;omega
 unfold impl_fitsSwap spec_l08Alike slices_EqualFunc_Simpl_Pin_Simpl_Pin_impl_Pin_impl_Pin_at_impl_fitsSwap_c1
 by_cases k:TCell.Kind a=TCell.Kind b
 ·rw [if_pos k,if_pos k]
  by_cases hl:((TCell.Pins a).length:Int)=((TCell.Pins b).length:Int)
  ·rw [if_pos hl,if_pos hl]
   rw [loopAll (l:=TCell.Pins a) (show Len _ by unfold Len;omega) (fun k x=>∀ y,(TCell.Pins b)[k]?=some y→(TPin.Clock x == TPin.Clock y)=true) (bad:=false) (good:=true)
    (step:=fun v=>slices_EqualFunc_Simpl_Pin_Simpl_Pin_impl_Pin_impl_Pin_at_impl_fitsSwap_c1_loop0 (TCell.Pins a) (TCell.Pins b) v.1)
    (fun k x hx hk _=>by
     have hy:(TCell.Pins b)[k]?=some (TCell.Pins b)[k]:=List.getElem?_eq_getElem (by omega)
     simp only [slices_EqualFunc_Simpl_Pin_Simpl_Pin_impl_Pin_impl_Pin_at_impl_fitsSwap_c1_loop0,impl_fitsSwap_c1,show (k:Int)<((TCell.Pins a).length:Int) from by omega,if_true,atI_nat,hx,hy,Option.bind_some,Option.some.injEq,forall_eq']
     constructor
     ·intro hh;rw [if_pos hh]
     ·intro hh;rw [if_neg hh])
    (fun _=>by simp only [slices_EqualFunc_Simpl_Pin_Simpl_Pin_impl_Pin_impl_Pin_at_impl_fitsSwap_c1_loop0,Int.lt_irrefl,if_false]),
    loopAll (l:=TCell.Pins a) (show Len _ by unfold Len;omega) (fun k x=>∀ y,(TCell.Pins b)[k]?=some y→(TPin.Clock x == TPin.Clock y)=true) (bad:=false) (good:=true)
    (step:=fun v=>spec_l08Alike_loop0 a b v.1)
    (fun k x hx hk _=>by
     have hy:(TCell.Pins b)[k]?=some (TCell.Pins b)[k]:=List.getElem?_eq_getElem (by omega)
     simp only [spec_l08Alike_loop0,show (k:Int)<((TCell.Pins a).length:Int) from by omega,if_true,atI_nat,hx,hy,Option.bind_some,Option.some.injEq,forall_eq']
     constructor
     ·intro hh;rw [if_pos hh]
     ·intro hh;rw [if_neg hh])
    (fun _=>by simp only [spec_l08Alike_loop0,Int.lt_irrefl,if_false])]
   exact ⟨rfl,_,rfl⟩
  ·rw [if_neg hl,if_neg hl]
   exact ⟨rfl,_,rfl⟩
 ·rw [if_neg k,if_neg k]
  exact ⟨rfl,_,rfl⟩
theorem instNamed_eq (d:TDesign) (s:List UInt8) (hd:sm tDesign d):impl_InstanceNamed d s=some (findIx (fun x=>decide (TInstance.Name x=s)) (TDesign.Instances d))∧spec_InstanceNamed d s=some (findIx (fun x=>decide (TInstance.Name x=s)) (TDesign.Instances d)):=by
 have hl:=len_of_sm (smDesign hd).1
 constructor
 ·unfold impl_InstanceNamed
  rw [slices_IndexFunc_Simpl_Instance_impl_Instance_at_impl_InstanceNamed_c1_eq hl (fun x=>decide (TInstance.Name x=s)) (fun x _=>rfl),Option.bind_some]
 ·unfold spec_InstanceNamed
  refine index_loop hl (out:=fun i=>i) (fun k x hx=>?_) ?_
  ·have hk:=(List.getElem?_eq_some_iff.1 hx).1
   simp only [spec_InstanceNamed_loop0,show (k:Int)<((TDesign.Instances d).length:Int) from by omega,if_true,atI_nat,hx,Option.bind_some,decide_eq_true_eq]
   split<;>rfl
  ·simp only [spec_InstanceNamed_loop0,Int.lt_irrefl,if_false]
theorem netNamed_eq (d:TDesign) (s:List UInt8) (hd:sm tDesign d):impl_Design_netNamed d s=some (findIx (fun x=>decide (s=x)) (TDesign.Nets d))∧spec_NetNamed d s=some (findIx (fun x=>decide (s=x)) (TDesign.Nets d)):=by
 have hl:=len_of_sm (smDesign hd).2.2
 constructor
 ·unfold impl_Design_netNamed
  rw [slices_Index_Sstring_string_eq hl,Option.bind_some]
 ·unfold spec_NetNamed spec_l04Index
  rw [index_loop hl (p:=fun x=>decide (s=x)) (out:=fun i=>i) (fun k x hx=>by
   have hk:=(List.getElem?_eq_some_iff.1 hx).1
   simp only [spec_l04Index_loop0,show (k:Int)<((TDesign.Nets d).length:Int) from by omega,if_true,atI_nat,hx,Option.bind_some,decide_eq_true_eq]
   by_cases hq:s=x
   ·rw [if_pos hq,if_pos hq.symm]
   ·rw [if_neg hq,if_neg (fun q=>hq q.symm)]) (by simp only [spec_l04Index_loop0,Int.lt_irrefl,if_false]),Option.bind_some]
end Go.Proofs.YtpkjjgdhmafonaaGreatDoor
/-
  Plain laws: edits: what is possible, the code of an edit, places after one.
-/
namespace Go.Proofs.YtpkjjgdhmafonaaGreatDoor
set_option linter.unusedVariables false
set_option linter.unusedSimpArgs false
open Go Go.Sx
def LastOk (b:TBlock):Prop:=∃ (x:TInstance) (c:TCell) (w:TWire) (m:Int),
 0<(TDesign.Instances (TBlock.Design b)).length∧(TDesign.Instances (TBlock.Design b))[(TDesign.Instances (TBlock.Design b)).length-1]?=some x∧
 (TLibrary.Cells (TBlock.Library b))[(TInstance.Cell x).toNat]?=some c∧TCell.Kind c=1∧(TCell.Pins c).length=2∧
 (TInstance.Nets x).length=2∧atI (TInstance.Nets x) 0=some m∧atI (TInstance.Nets x) 1=some (((TDesign.Nets (TBlock.Design b)).length:Int)-1)∧m≠((TDesign.Nets (TBlock.Design b)).length:Int)-1∧
 atI (TDesign.Nets (TBlock.Design b)) (((TDesign.Nets (TBlock.Design b)).length:Int)-1)=some (TInstance.Name x)∧
 atI (TBlock.Wires b) (((TDesign.Nets (TBlock.Design b)).length:Int)-1)=some w∧(TWire.Sink w).length=1∧(sinks (TBlock.Design b) (((TDesign.Nets (TBlock.Design b)).length:Int)-1)).length=1∧(TWire.Parent w).length=1∧atI (TWire.Cap w) 0=some 0
theorem canUn_eq {b:TBlock} (h:BlkSm b):∃ r,impl_Block_canUnbuffer b=some r∧spec_l08Last b=some r∧
  (r=true→LastOk b):=by
 have hD:=h.ok.1
 have hf:=hD.few
 have h14:=hf.insts
 have h30:=hD.2.1.2.1
 have hwn:=h.ok.2.1
 unfold impl_Block_canUnbuffer spec_l08Last
 by_cases hn:((TDesign.Instances (TBlock.Design b)).length:Int)=0
 ·rw [if_pos hn,hn,W_in (by omega) (by omega),if_pos (by omega)]
  exact ⟨false,rfl,rfl,fun h=>by cases h⟩
 rw [if_neg hn,W_in (n:=((TDesign.Instances (TBlock.Design b)).length:Int)-1) (by omega) (by omega),if_neg (by omega)]
 have hlt:(TDesign.Instances (TBlock.Design b)).length-1<(TDesign.Instances (TBlock.Design b)).length:=by omega
 have hx:=List.getElem?_eq_getElem hlt
 generalize (TDesign.Instances (TBlock.Design b))[(TDesign.Instances (TBlock.Design b)).length-1]=x at hx
 have hx2:atI (TDesign.Instances (TBlock.Design b)) (((TDesign.Instances (TBlock.Design b)).length:Int)-1)=some x:=atI_some (by omega) (by rw [←hx];congr 1;omega)
 obtain ⟨⟨c0,c1⟩,⟨c,hc,hnp⟩,hnet⟩:=hD.2.2.1 x (List.mem_of_getElem? hx)
 have hc2:atI (TLibrary.Cells (TBlock.Library b)) (TInstance.Cell x)=some c:=atI_some c0 hc
 rw [hx2]
 simp only [Option.bind_some,hc2,show impl_length_string (TDesign.Nets (TBlock.Design b))=some ((TDesign.Nets (TBlock.Design b)).length:Int) from rfl]
 rw [show spec_l08Buffer c=impl_isBuffer c from rfl]
 have hbuf:impl_isBuffer c=some (tr (TCell.Kind c=1∧(TCell.Pins c).length=2)):=by
  unfold impl_isBuffer
  refine eq_tr (and_ifP fun _=>fin_tr decide_eq_true_iff) ?_
  omega
 rw [hbuf,Option.bind_some,Option.bind_some]
 by_cases hb:TCell.Kind c=1∧(TCell.Pins c).length=2
 ·rw [if_pos (tr_pos hb),if_pos (tr_pos hb)]
  have hl2:(TInstance.Nets x).length=2:=by rw [hnp];exact hb.2
  have n0:atI (TInstance.Nets x) 0=some ((TInstance.Nets x)[0]'(by omega)):=List.getElem?_eq_getElem (by omega)
  have n1:atI (TInstance.Nets x) 1=some ((TInstance.Nets x)[1]'(by omega)):=List.getElem?_eq_getElem (by omega)
  have hn1:=hnet ((TInstance.Nets x)[1]'(by omega)) (List.getElem_mem _)
  have hpos:1≤(TDesign.Nets (TBlock.Design b)).length:=by have:=hn1.1;have:=hn1.2;omega
  generalize (TInstance.Nets x)[1]'(by omega)=m1 at n1 hn1
  generalize (TInstance.Nets x)[0]'(by omega)=m0 at n0
  have eL:IntKind.i64.wrap (((TDesign.Nets (TBlock.Design b)).length:Int)-1)=((TDesign.Nets (TBlock.Design b)).length:Int)-1:=W_in (by omega) (by omega)
  have eW:IntKind.i64.wrap (((TBlock.Wires b).length:Int)-1)=((TDesign.Nets (TBlock.Design b)).length:Int)-1:=by rw [W_in (by omega) (by omega)];omega
  have hL:IsNet (TBlock.Design b) (((TDesign.Nets (TBlock.Design b)).length:Int)-1):=⟨by omega,by omega⟩
  obtain ⟨w,hw1,hw2,hw3⟩:=wire_at h hL
  have nL:atI (TDesign.Nets (TBlock.Design b)) (((TDesign.Nets (TBlock.Design b)).length:Int)-1)=some ((TDesign.Nets (TBlock.Design b))[(TDesign.Nets (TBlock.Design b)).length-1]'(by omega)):=atI_some (by omega) (by
   rw [List.getElem?_eq_getElem (by omega)]
   congr 2
   omega)
  generalize (TDesign.Nets (TBlock.Design b))[(TDesign.Nets (TBlock.Design b)).length-1]'(by omega)=nm at nL
  have hcap:atI (TWire.Cap w) 0=some ((TWire.Cap w)[0]'(by have:=hw3.1;have:=hw3.2.2.1;omega)):=List.getElem?_eq_getElem (by have:=hw3.1;have:=hw3.2.2.1;omega)
  generalize (TWire.Cap w)[0]'(by have:=hw3.1;have:=hw3.2.2.1;omega)=cp at hcap
  have hsk:=hw3.2.2.2.1
  simp only [eL,eW,n0,n1,nL,hw2,Option.bind_some,spec_l05Sinks_eq _ _ hf,spec_l08Bare,hcap]
  rw [←hsk]
  by_cases q1:m1=((TDesign.Nets (TBlock.Design b)).length:Int)-1
  ·rw [if_pos q1,if_pos q1]
   by_cases q2:m0=((TDesign.Nets (TBlock.Design b)).length:Int)-1
   ·rw [if_pos q2]
    by_cases q3:nm=TInstance.Name x
    ·rw [if_pos q3]
     simp only [if_pos q2]
     exact ⟨_,rfl,rfl,fun q=>by cases q⟩
    ·rw [if_neg q3]
     exact ⟨_,rfl,rfl,fun q=>by cases q⟩
   ·rw [if_neg q2]
    by_cases q3:nm=TInstance.Name x
    ·rw [if_pos q3,if_pos q3]
     simp only [if_neg q2]
     by_cases q4:((TWire.Sink w).length:Int)=1
     ·rw [if_pos q4,if_pos q4]
      by_cases q5:((TWire.Parent w).length:Int)=1
      ·simp only [if_pos q5]
       refine ⟨_,rfl,rfl,fun q=>?_⟩
       have q6:=of_decide_eq_true q
       subst q1 q6
       exact ⟨x,c,w,m0,by omega,hx,hc,hb.1,hb.2,hl2,n0,n1,q2,by rw [nL,q3],hw2,by omega,by omega,by omega,hcap⟩
      ·simp only [if_neg q5]
       exact ⟨_,rfl,rfl,fun q=>by cases q⟩
     ·rw [if_neg q4,if_neg q4]
      exact ⟨_,rfl,rfl,fun q=>by cases q⟩
    ·rw [if_neg q3,if_neg q3]
     exact ⟨_,rfl,rfl,fun q=>by cases q⟩
  ·rw [if_neg q1,if_neg q1]
   exact ⟨_,rfl,rfl,fun q=>by cases q⟩
 ·rw [if_neg (fun q=>hb ((tr_iff _).1 q)),if_neg (fun q=>hb ((tr_iff _).1 q))]
  exact ⟨false,rfl,rfl,fun h=>by cases h⟩
theorem cell_at {b:TBlock} (h:BlkSm b) {i:Int} (h0:0≤i) (h1:i≤((TLibrary.Cells (TBlock.Library b)).length:Int)-1):∃ c,atI (TLibrary.Cells (TBlock.Library b)) i=some c∧sm tCell c:=by
 have hlt:i.toNat<(TLibrary.Cells (TBlock.Library b)).length:=by omega
 have hc:=List.getElem?_eq_getElem hlt
 exact ⟨_,atI_some h0 hc,sm_get (smLib (smBlock h.sm).1) hc⟩
theorem place_at {b:TBlock} (h:BlkSm b) {i:Int} (h0:0≤i) (h1:i≤((places (TBlock.Design b)).length:Int)-1):∃ p,atI (places (TBlock.Design b)) i=some p∧p∈places (TBlock.Design b):=by
 have hlt:i.toNat<(places (TBlock.Design b)).length:=by omega
 have hc:=List.getElem?_eq_getElem hlt
 exact ⟨_,atI_some h0 hc,List.getElem_mem _⟩
theorem place_inst {d:TDesign} {p:Pl} (hp:p∈places d) (h0:0≤p.1):∃ x,(TDesign.Instances d)[p.1.toNat]?=some x∧x∈TDesign.Instances d:=by
 unfold places at hp
 rcases List.mem_append.1 hp with hp | hp
 ·obtain ⟨i,z,hi,hz⟩:=mem_cat.1 hp
  unfold instPl at hz
  obtain ⟨j,n,hj,hn⟩:=mem_cat.1 hz
  simp only [List.mem_singleton] at hn
  subst hn
  refine ⟨z,?_,List.mem_of_getElem? hi⟩
  show (TDesign.Instances d)[(((0+i:Nat):Int)).toNat]?=some z
  rw [show (((0+i:Nat):Int)).toNat=i by omega]
  exact hi
 ·obtain ⟨j,q,hj,hq⟩:=mem_cat.1 hp
  simp only [portPl,List.mem_singleton] at hq
  subst hq
  have h0:(0:Int)≤-1:=h0
  omega
theorem LastOk.two {b:TBlock} (h:LastOk b):0<(TDesign.Instances (TBlock.Design b)).length∧∃ x,(TDesign.Instances (TBlock.Design b))[(TDesign.Instances (TBlock.Design b)).length-1]?=some x∧(TInstance.Nets x).length=2:=by
 obtain ⟨x,c,w,m,h1,h2,_,_,_,h3,_⟩:=h
 exact ⟨h1,x,h2,h3⟩
def AtPlace (b:TBlock) (e:TEdit) (p:Pl):Prop:=0≤TEdit.Place e∧(places (TBlock.Design b))[(TEdit.Place e).toNat]?=some p
theorem at_place {b:TBlock} {e:TEdit} {p:Pl} (h0:0≤TEdit.Place e) (hp:atI (places (TBlock.Design b)) (TEdit.Place e)=some p):AtPlace b e p:=by
 refine ⟨h0,?_⟩
 rw [show TEdit.Place e=(((TEdit.Place e).toNat:Nat):Int) by omega,atI_nat] at hp
 exact hp
theorem AtPlace.at {b:TBlock} {e:TEdit} {p:Pl} (h:AtPlace b e p):atI (places (TBlock.Design b)) (TEdit.Place e)=some p:=atI_some h.1 h.2
def PossOk (b:TBlock) (e:TEdit):Prop :=
 (TEdit.Kind e=1→∃ (p:Pl) (x:TInstance) (c c2:TCell),AtPlace b e p∧0≤p.1∧p.2.2.2.1=true∧atI (TDesign.Instances (TBlock.Design b)) p.1=some x∧atI (TLibrary.Cells (TBlock.Library b)) (TInstance.Cell x)=some c∧atI (TLibrary.Cells (TBlock.Library b)) (TEdit.Cell e)=some c2∧spec_l08Alike c c2=some true)∧
 (TEdit.Kind e=2→∃ (p:Pl) (c:TCell),AtPlace b e p∧p.2.2.2.1=false∧atI (TLibrary.Cells (TBlock.Library b)) (TEdit.Cell e)=some c∧TCell.Kind c=1∧(TCell.Pins c).length=2∧nameOk (TEdit.Name e)=true∧
  findIx (fun x=>decide (TInstance.Name x=TEdit.Name e)) (TDesign.Instances (TBlock.Design b))<0∧findIx (fun x=>decide (TEdit.Name e=x)) (TDesign.Nets (TBlock.Design b))<0)∧
 (TEdit.Kind e=3→LastOk b)∧
 (TEdit.Kind e=4→∃ p:Pl,AtPlace b e p∧p.2.2.2.1=false∧p.2.2.1≠TEdit.Net e)∧
 (TEdit.Kind e=5→WireOk (TEdit.Wire e) ((sinks (TBlock.Design b) (TEdit.Net e)).length:Int))
theorem possible_eq {b:TBlock} (h:BlkSm b) (e:TEdit) (he:sm tEdit e) (hB:Blank e) (hR:RangeOk b e):∃ r,impl_Edit_isPossible e b=some r∧spec_l08State b e=some r∧
  (r=true→PossOk b e):=by
 have hD:=h.ok.1
 have hf:=hD.few
 have hsd:=(smBlock h.sm).2.1
 obtain ⟨he1,he2⟩:=smEdit he
 unfold impl_Edit_isPossible spec_l08State
 rw [impl_Design_places_eq _ hf,spec_l05Places_eq _ hf,Option.bind_some,Option.bind_some]
 by_cases k1:TEdit.Kind e=1
 ·rw [if_pos k1,if_pos k1]
  obtain ⟨⟨p0,p1⟩,c0,c1⟩:=hR.1 (.inl k1)
  obtain ⟨p,hp,hpm⟩:=place_at h p0 p1
  obtain ⟨c2,hc2,hc2s⟩:=cell_at h c0 c1
  rw [hp]
  simp only [Option.bind_some,hc2]
  by_cases q1:(0:Int)≤p.1
  ·rw [if_pos q1,if_pos q1]
   by_cases q2:p.2.2.2.1=true
   ·rw [if_pos q2,if_pos q2]
    obtain ⟨x,hx,hxm⟩:=place_inst hpm q1
    have hx2:atI (TDesign.Instances (TBlock.Design b)) p.1=some x:=atI_some q1 hx
    obtain ⟨⟨d0,d1⟩,_,_⟩:=hD.2.2.1 x hxm
    obtain ⟨c,hc,hcs⟩:=cell_at h d0 d1
    obtain ⟨a1,r,a2⟩:=alike_eq c c2 hcs
    have e1:Tplace.instance p=p.1:=rfl
    have e2:Tl05Place.instance p=p.1:=rfl
    simp only [e1,e2,hx2,Option.bind_some,hc,a1,a2]
    exact ⟨r,rfl,rfl,fun q=>⟨fun _=>⟨p,x,c,c2,at_place p0 hp,q1,q2,hx2,hc,hc2,by rw [a2,q]⟩,fun k=>by omega,fun k=>by omega,fun k=>by omega,fun k=>by omega⟩⟩
   ·rw [if_neg q2,if_neg q2]
    exact ⟨_,rfl,rfl,fun q=>by cases q⟩
  ·rw [if_neg q1,if_neg q1]
   exact ⟨_,rfl,rfl,fun q=>by cases q⟩
 rw [if_neg k1,if_neg k1]
 by_cases k2:TEdit.Kind e=2
 ·rw [if_pos k2,if_pos k2]
  obtain ⟨⟨p0,p1⟩,c0,c1⟩:=hR.1 (.inr k2)
  obtain ⟨p,hp,hpm⟩:=place_at h p0 p1
  obtain ⟨c2,hc2,hc2s⟩:=cell_at h c0 c1
  have hbuf:impl_isBuffer c2=some (tr (TCell.Kind c2=1∧(TCell.Pins c2).length=2)):=by
   unfold impl_isBuffer
   refine eq_tr (and_ifP fun _=>fin_tr decide_eq_true_iff) ?_
   omega
  have hlN:(TEdit.Name e).length≤4611686018427387904:=by have:((TEdit.Name e).length:Int)≤1048576:=he1;omega
  rw [hp]
  simp only [Option.bind_some,hc2,show spec_l08Buffer c2=impl_isBuffer c2 from rfl,hbuf,impl_isName_eq,spec_l03Name_eq _ hlN,(instNamed_eq _ (TEdit.Name e) hsd).1,(instNamed_eq _ (TEdit.Name e) hsd).2,(netNamed_eq _ (TEdit.Name e) hsd).1,(netNamed_eq _ (TEdit.Name e) hsd).2]
  have e1:Tplace.drives p=p.2.2.2.1:=rfl
  have e2:Tl05Place.drives p=p.2.2.2.1:=rfl
  rw [e1,e2]
  by_cases q2:p.2.2.2.1=true
  ·simp only [if_pos q2]
   exact ⟨_,rfl,rfl,fun q=>by cases q⟩
  simp only [if_neg q2]
  by_cases q3:tr (TCell.Kind c2=1∧(TCell.Pins c2).length=2)=true
  ·simp only [if_pos q3]
   by_cases q4:nameOk (TEdit.Name e)=true
   ·simp only [if_pos q4]
    split
    ·rename_i q5
     refine ⟨_,rfl,rfl,fun q=>⟨fun k=>by omega,fun _=>⟨p,c2,at_place p0 hp,by simpa using q2,hc2,((tr_iff _).1 q3).1,((tr_iff _).1 q3).2,q4,q5,of_decide_eq_true q⟩,fun k=>by omega,fun k=>by omega,fun k=>by omega⟩⟩
    ·exact ⟨_,rfl,rfl,fun q=>by cases q⟩
   ·simp only [if_neg q4]
    exact ⟨_,rfl,rfl,fun q=>by cases q⟩
  ·simp only [if_neg q3]
   exact ⟨_,rfl,rfl,fun q=>by cases q⟩
 rw [if_neg k2,if_neg k2]
 by_cases k3:TEdit.Kind e=3
 ·rw [if_pos k3,if_pos k3]
  obtain ⟨r,a,c,d⟩:=canUn_eq h
  rw [a,c]
  exact ⟨r,rfl,rfl,fun q=>⟨fun k=>by omega,fun k=>by omega,fun _=>d q,fun k=>by omega,fun k=>by omega⟩⟩
 rw [if_neg k3,if_neg k3]
 by_cases k4:TEdit.Kind e=4
 ·rw [if_pos k4,if_pos k4]
  obtain ⟨⟨p0,p1⟩,_⟩:=hR.2.1 k4
  obtain ⟨p,hp,hpm⟩:=place_at h p0 p1
  rw [hp]
  simp only [Option.bind_some]
  have e1:Tplace.drives p=p.2.2.2.1:=rfl
  have e2:Tl05Place.drives p=p.2.2.2.1:=rfl
  rw [e1,e2]
  by_cases q2:p.2.2.2.1=true
  ·simp only [if_pos q2]
   exact ⟨_,rfl,rfl,fun q=>by cases q⟩
  ·simp only [if_neg q2]
   refine ⟨_,rfl,rfl,fun q=>⟨fun k=>by omega,fun k=>by omega,fun k=>by omega,fun _=>⟨p,at_place p0 hp,by simpa using q2,by simp only [Bool.not_eq_true',decide_eq_false_iff_not] at q;exact q⟩,fun k=>by omega⟩⟩
 rw [if_neg k4,if_neg k4]
 have k5:TEdit.Kind e=5:=by unfold Blank at hB;omega
 obtain ⟨w,hw1,hw2,hw3⟩:=wire_at h (hR.2.2 k5)
 rw [hw2,spec_l05Sinks_eq _ _ hf]
 simp only [Option.bind_some,impl_length_int64_eq,impl_IsWire_eq _ _ he2,spec_IsWire_eq _ _ he2,hw3.2.2.2.1]
 exact ⟨_,rfl,rfl,fun q=>⟨fun k=>by omega,fun k=>by omega,fun k=>by omega,fun k=>by omega,fun _=>(tr_iff _).1 q⟩⟩
structure CanDo (b:TBlock) (e:TEdit):Prop where
 blk:BlkSm b
 blank:Blank e
 range:RangeOk b e
 poss:PossOk b e
 lim:TEdit.Kind e=2→(TDesign.Instances (TBlock.Design b)).length≤13∧(TDesign.Nets (TBlock.Design b)).length≤29
theorem CanDo.last {b:TBlock} {e:TEdit} (h:CanDo b e) (k3:TEdit.Kind e=3):0<(TDesign.Instances (TBlock.Design b)).length∧∃ x,(TDesign.Instances (TBlock.Design b))[(TDesign.Instances (TBlock.Design b)).length-1]?=some x∧(TInstance.Nets x).length=2:=(h.poss.2.2.1 k3).two
theorem editCode_eq (b:TBlock) (e:TEdit) (hb:sm tBlock b) (he:sm tEdit e):∃ c,impl_EditCode b e=some c∧spec_EditCode b e=some c∧(c=0→CanDo b e):=by
 unfold impl_EditCode spec_EditCode impl_Edit_code
 rw [impl_IsBlock_eq b hb,spec_IsBlock_eq b hb,Option.bind_some,Option.bind_some]
 by_cases hB:BlockOk b
 ·rw [if_pos (tr_pos hB),if_pos (tr_pos hB)]
  have h:BlkSm b:=⟨hB,hb⟩
  have hwn:=hB.2.1
  rw [impl_isInRange_eq h e he,spec_l08Blank_eq e he,spec_l08Range_eq h e he]
  simp only [Option.bind_some]
  by_cases h1:Blank e
  ·rw [if_pos (tr_pos h1)]
   by_cases h2:RangeOk b e
   ·rw [if_pos (tr_pos ⟨h1,h2⟩),if_pos (tr_pos h2)]
    obtain ⟨r,a,c,d⟩:=possible_eq h e he h1 h2
    rw [a,c]
    simp only [Option.bind_some]
    by_cases hr:r=true
    ·rw [if_pos hr,if_pos hr]
     have h14:=hB.1.few.insts
     have h30:=hB.1.2.1.2.1
     by_cases k2:TEdit.Kind e=2
     ·rw [if_pos k2,if_pos k2]
      by_cases q1:((TDesign.Instances (TBlock.Design b)).length:Int)=14
      ·rw [if_pos q1,if_pos q1]
       exact ⟨_,rfl,rfl,fun q=>by cases q⟩
      ·rw [if_neg q1,if_neg q1]
       by_cases q2:((TDesign.Nets (TBlock.Design b)).length:Int)=30
       ·rw [if_pos q2,if_pos (by omega)]
        exact ⟨_,rfl,rfl,fun q=>by cases q⟩
       ·rw [if_neg q2,if_neg (by omega)]
        exact ⟨_,rfl,rfl,fun _=>⟨h,h1,h2,d hr,fun _=>⟨by omega,by omega⟩⟩⟩
     ·rw [if_neg k2,if_neg k2]
      exact ⟨_,rfl,rfl,fun _=>⟨h,h1,h2,d hr,fun k=>absurd k k2⟩⟩
    ·rw [if_neg hr,if_neg hr]
     exact ⟨_,rfl,rfl,fun q=>by cases q⟩
   ·rw [if_neg (fun q=>h2 ((tr_iff _).1 q).2),if_neg (fun q=>h2 ((tr_iff _).1 q))]
    exact ⟨_,rfl,rfl,fun q=>by cases q⟩
  ·rw [if_neg (fun q=>h1 ((tr_iff _).1 q).1),if_neg (fun q=>h1 ((tr_iff _).1 q))]
   exact ⟨_,rfl,rfl,fun q=>by cases q⟩
 ·rw [if_neg (fun q=>hB ((tr_iff _).1 q)),if_neg (fun q=>hB ((tr_iff _).1 q))]
  exact ⟨_,rfl,rfl,fun q=>by cases q⟩
end Go.Proofs.YtpkjjgdhmafonaaGreatDoor
/-
  Plain laws: places, one by one; a place put on another net; an instance more, an instance less.
-/
namespace Go.Proofs.YtpkjjgdhmafonaaGreatDoor
set_option linter.unusedVariables false
set_option linter.unusedSimpArgs false
open Go Go.Sx
theorem cat_one_get {α β:Type} {g:Nat→α→β}:∀ (l:List α) (m j:Nat),(cat (fun j n=>[g j n]) m l)[j]?=(l[j]?).map (g (m+j))
 | [],m,j=>by simp [cat]
 | x::r,m,0=>by simp [cat]
 | x::r,m,j+1=>by
  simp only [cat,List.singleton_append,List.getElem?_cons_succ,cat_one_get r]
  rw [show m+1+j=m+(j+1) by omega]
theorem cat_one_length {α β:Type} {g:Nat→α→β}:∀ (l:List α) (m:Nat),(cat (fun j n=>[g j n]) m l).length=l.length
 | [],m=>rfl
 | x::r,m=>by simp only [cat,List.singleton_append,List.length_cons,cat_one_length r]
theorem cat_one_set {α β:Type} {g:Nat→α→β} (y:α):∀ (l:List α) (m j:Nat),cat (fun j n=>[g j n]) m (l.set j y)=(cat (fun j n=>[g j n]) m l).set j (g (m+j) y)
 | [],m,j=>by simp [cat]
 | x::r,m,0=>by simp [cat]
 | x::r,m,j+1=>by
  simp only [cat,List.singleton_append,List.set_cons_succ,cat_one_set y r]
  rw [show m+1+j=m+(j+1) by omega]
theorem cat_parts {α β:Type} (f:Nat→α→List β) {l:List α} {i:Nat} {x:α} (hx:l[i]?=some x):cat f 0 l=cat f 0 (l.take i)++(f i x++cat f (i+1) (l.drop (i+1))):=by
 have hi:=(List.getElem?_eq_some_iff.1 hx).1
 have e:l=l.take i++(x::l.drop (i+1)):=by
  have hd:l.drop i=x::l.drop (i+1):=by
   rw [List.drop_eq_getElem_cons hi];congr 1;exact (List.getElem?_eq_some_iff.1 hx).2
  rw [←hd,List.take_append_drop]
 have e2:=congrArg (cat f 0) e
 rw [cat_append] at e2
 simp only [cat,Nat.zero_add,List.length_take] at e2
 rw [show min i l.length=i by omega] at e2
 exact e2
theorem cat_set {α β:Type} (f:Nat→α→List β) {l:List α} {i j:Nat} {x y:α} {z:β} (hx:l[i]?=some x) (hj:j<(f i x).length) (hy:f i y=(f i x).set j z):cat f 0 (l.set i y)=(cat f 0 l).set ((cat f 0 (l.take i)).length+j) z:=by
 have hi:=(List.getElem?_eq_some_iff.1 hx).1
 rw [cat_parts f hx,cat_parts f (l:=l.set i y) (x:=y) (List.getElem?_set_self hi),List.take_set,List.set_eq_of_length_le (by rw [List.length_take];omega),List.drop_set_of_lt (by omega),hy,List.set_append,if_neg (by omega),List.set_append,if_pos (by omega),Nat.add_sub_cancel_left]
abbrev fstPl (d:TDesign) (i:Nat):Nat:=(cat instPl 0 ((TDesign.Instances d).take i)).length
abbrev insPl (d:TDesign):Nat:=(cat instPl 0 (TDesign.Instances d)).length
def pinPl (i:Nat) (x:TInstance) (j:Nat) (n:Int):Pl:=((i:Int),(j:Int),n,decide ((j:Int)=IntKind.i64.wrap (((TInstance.Nets x).length:Int)-1)),())
theorem instPl_eq (i:Nat) (x:TInstance):instPl i x=cat (fun j n=>[pinPl i x j n]) 0 (TInstance.Nets x):=rfl
theorem instPl_get {i:Nat} {x:TInstance} {j:Nat} {n:Int} (h:(TInstance.Nets x)[j]?=some n):(instPl i x)[j]?=some (pinPl i x j n):=by
 rw [instPl_eq,cat_one_get,h,Nat.zero_add];rfl
theorem instPl_length (i:Nat) (x:TInstance):(instPl i x).length=(TInstance.Nets x).length:=by rw [instPl_eq,cat_one_length]
theorem ports_eq (l:List TPort) (m:Nat):cat portPl m l=cat (fun j p=>[((-1:Int),(j:Int),TPort.Net p,decide (TPort.Dir p=1),())]) m l:=rfl
theorem pin_at_place {d:TDesign} {i j:Nat} {x:TInstance} {n:Int} (hx:(TDesign.Instances d)[i]?=some x) (hn:(TInstance.Nets x)[j]?=some n):(places d)[fstPl d i+j]?=some (pinPl i x j n):=by
 have hj:=(List.getElem?_eq_some_iff.1 hn).1
 unfold places
 rw [cat_parts instPl hx,List.append_assoc,List.getElem?_append_right (by unfold fstPl;omega),show fstPl d i+j-(cat instPl 0 ((TDesign.Instances d).take i)).length=j by unfold fstPl;omega,List.append_assoc,List.getElem?_append_left (by rw [instPl_length];exact hj)]
 exact instPl_get hn
theorem place_cases {d:TDesign} {k:Nat} {p:Pl} (hp:(places d)[k]?=some p) :
  (∃ (i j:Nat) (x:TInstance) (n:Int),(TDesign.Instances d)[i]?=some x∧(TInstance.Nets x)[j]?=some n∧k=fstPl d i+j∧p=pinPl i x j n)∨
  (∃ (j:Nat) (q:TPort),(TDesign.Ports d)[j]?=some q∧k=insPl d+j∧p=((-1:Int),(j:Int),TPort.Net q,decide (TPort.Dir q=1),())):=by
 by_cases hk:k<insPl d
 ·left
  have h1:(cat instPl 0 (TDesign.Instances d))[k]?=some p:=by
   unfold places at hp
   rwa [List.getElem?_append_left (show k<(cat instPl 0 (TDesign.Instances d)).length from hk)] at hp
  have find:∀ (n:Nat),n≤(TDesign.Instances d).length→k<fstPl d n→∃ i,i<n∧fstPl d i≤k∧k<fstPl d (i+1):=by
   intro n
   induction n with
   | zero=>intro _ h;simp [fstPl,cat] at h
   | succ n ih =>
    intro hn hlt
    by_cases hq:k<fstPl d n
    ·obtain ⟨i,a,b,c⟩:=ih (by omega) hq
     exact ⟨i,by omega,b,c⟩
    ·exact ⟨n,by omega,by omega,hlt⟩
  obtain ⟨i,hi,hlo,hhi⟩:=find (TDesign.Instances d).length (Nat.le_refl _) (by unfold fstPl;rw [List.take_length];exact hk)
  have hx:(TDesign.Instances d)[i]?=some (TDesign.Instances d)[i]:=List.getElem?_eq_getElem hi
  generalize (TDesign.Instances d)[i]=x at hx
  have hs:fstPl d (i+1)=fstPl d i+(TInstance.Nets x).length:=by
   unfold fstPl
   rw [cat_snoc hx,List.length_append,instPl_length]
  have hj:k-fstPl d i<(TInstance.Nets x).length:=by omega
  have hn:(TInstance.Nets x)[k-fstPl d i]?=some (TInstance.Nets x)[k-fstPl d i]:=List.getElem?_eq_getElem hj
  generalize (TInstance.Nets x)[k-fstPl d i]=n at hn
  refine ⟨i,k-fstPl d i,x,n,hx,hn,by omega,?_⟩
  have h2:=pin_at_place hx hn
  rw [show fstPl d i+(k-fstPl d i)=k by omega,hp] at h2
  injection h2
 ·right
  have h1:(cat portPl 0 (TDesign.Ports d))[k-insPl d]?=some p:=by
   unfold places at hp
   rwa [List.getElem?_append_right (show (cat instPl 0 (TDesign.Instances d)).length≤k from Nat.le_of_not_lt hk)] at hp
  rw [ports_eq,cat_one_get,Nat.zero_add] at h1
  cases hq:(TDesign.Ports d)[k-insPl d]? with
  | none=>rw [hq] at h1;cases h1
  | some q =>
   rw [hq] at h1
   injection h1 with h1
   exact ⟨k-insPl d,q,hq,by omega,h1.symm⟩
theorem key_inj {d:TDesign} {k k':Nat} {p p':Pl} (hp:(places d)[k]?=some p) (hp':(places d)[k']?=some p') (h1:p.1=p'.1) (h2:p.2.1=p'.2.1):k=k':=by
 rcases place_cases hp with ⟨i,j,x,n,_,_,e,rfl⟩ | ⟨j,q,_,e,rfl⟩<;>rcases place_cases hp' with ⟨i',j',x',n',_,_,e',rfl⟩ | ⟨j',q',_,e',rfl⟩
 ·simp only [pinPl] at h1 h2
  have:i=i':=by omega
  have:j=j':=by omega
  subst i' j'
  omega
 ·simp only [pinPl] at h1;omega
 ·simp only [pinPl] at h1;omega
 ·simp only at h2
  omega
def setPin (x:TInstance) (j:Nat) (n:Int):TInstance:=(TInstance.Name x,TInstance.Cell x,List.set (TInstance.Nets x) j n,())
def setPort (q:TPort) (n:Int):TPort:=(TPort.Name q,TPort.Dir q,n,())
def conn (d:TDesign) (a b:Int) (n:Int):TDesign :=
 if a<0 then (TDesign.Instances d,TDesign.Nets d,match (TDesign.Ports d)[b.toNat]? with
  | some q=>(TDesign.Ports d).set b.toNat (setPort q n)
  | none=>TDesign.Ports d,())
 else (match (TDesign.Instances d)[a.toNat]? with
  | some x=>(TDesign.Instances d).set a.toNat (setPin x b.toNat n)
  | none=>TDesign.Instances d,TDesign.Nets d,TDesign.Ports d,())
theorem setPin_pl (i:Nat) (x:TInstance) (j:Nat) (n:Int):instPl i (setPin x j n)=(instPl i x).set j (pinPl i x j n):=by
 rw [instPl_eq,instPl_eq]
 show cat (fun (j':Nat) (m:Int)=>[pinPl i (setPin x j n) j' m]) 0 (List.set (TInstance.Nets x) j n)=_
 have:(fun (j':Nat) (m:Int)=>[pinPl i (setPin x j n) j' m])=fun j' m=>[pinPl i x j' m]:=by
  funext j' m
  have hl:(TInstance.Nets (setPin x j n)).length=(TInstance.Nets x).length:=List.length_set
  simp only [pinPl,hl]
 rw [this,cat_one_set,Nat.zero_add]
theorem places_conn {d:TDesign} {k:Nat} {p:Pl} (hp:(places d)[k]?=some p) (n:Int):places (conn d p.1 p.2.1 n)=(places d).set k (p.1,p.2.1,n,p.2.2.2.1,()):=by
 rcases place_cases hp with ⟨i,j,x,m,hx,hn,e,rfl⟩ | ⟨j,q,hq,e,rfl⟩
 ·have hj:=(List.getElem?_eq_some_iff.1 hn).1
  have e1:conn d (pinPl i x j m).1 (pinPl i x j m).2.1 n=((TDesign.Instances d).set i (setPin x j n),TDesign.Nets d,TDesign.Ports d,()):=by
   unfold conn
   rw [if_neg (by simp only [pinPl];omega)]
   simp only [pinPl,Int.toNat_natCast,hx]
  rw [e1]
  unfold places
  show cat instPl 0 ((TDesign.Instances d).set i (setPin x j n))++cat portPl 0 (TDesign.Ports d)=_
  have hlt:k<(cat instPl 0 (TDesign.Instances d)).length:=by
   rw [cat_parts instPl hx,List.length_append,List.length_append,instPl_length]
   unfold fstPl at e
   omega
  rw [cat_set instPl hx (j:=j) (z:=pinPl i x j n) (by rw [instPl_length];exact hj) (setPin_pl i x j n),List.set_append,if_pos hlt,e]
  rfl
 ·have e1:conn d (-1) (j:Int) n=(TDesign.Instances d,TDesign.Nets d,(TDesign.Ports d).set j (setPort q n),()):=by
   unfold conn
   rw [if_pos (by omega)]
   simp only [Int.toNat_natCast,hq]
  show places (conn d (-1) (j:Int) n)=_
  rw [e1]
  unfold places
  show cat instPl 0 (TDesign.Instances d)++cat portPl 0 ((TDesign.Ports d).set j (setPort q n))=_
  rw [List.set_append,if_neg (by unfold insPl at e;omega),ports_eq,cat_one_set,Nat.zero_add,e,show insPl d+j-(cat instPl 0 (TDesign.Instances d)).length=j by unfold insPl;omega,ports_eq]
  rfl
end Go.Proofs.YtpkjjgdhmafonaaGreatDoor
/-
  Plain laws: the wires' sinks out of the places' nodes.
-/
namespace Go.Proofs.YtpkjjgdhmafonaaGreatDoor
set_option linter.unusedVariables false
set_option linter.unusedSimpArgs false
open Go Go.Sx
def nth (pl:List Pl) (net:Int) (k:Nat):Nat:=(cat (sinkF net) 0 (pl.take k)).length
theorem sinkF_not {net:Int} {k:Nat} {p:Pl} (h:¬(p.2.2.1=net∧p.2.2.2.1=false)):sinkF net k p=[]:=by
 unfold sinkF
 split
 ·split
  ·rfl
  ·rename_i h1 h2;exact absurd ⟨h1,by simpa using h2⟩ h
 ·rfl
theorem sinkF_yes {net:Int} {k:Nat} {p:Pl} (h1:p.2.2.1=net) (h2:p.2.2.2.1=false):sinkF net k p=[(k:Int)]:=by
 unfold sinkF
 rw [if_pos h1,if_neg (by rw [h2];simp)]
theorem sinks_nth {pl:List Pl} {net:Int} {k:Nat} {p:Pl} (hp:pl[k]?=some p) (h1:p.2.2.1=net) (h2:p.2.2.2.1=false):(cat (sinkF net) 0 pl)[nth pl net k]?=some (k:Int):=by
 rw [cat_parts (sinkF net) hp,sinkF_yes h1 h2]
 unfold nth
 rw [List.getElem?_append_right (Nat.le_refl _),Nat.sub_self]
 rfl
theorem nth_lt {pl:List Pl} {net:Int} {k:Nat} {p:Pl} (hp:pl[k]?=some p) (h1:p.2.2.1=net) (h2:p.2.2.2.1=false):nth pl net k<(cat (sinkF net) 0 pl).length:=(List.getElem?_eq_some_iff.1 (sinks_nth hp h1 h2)).1
def nodeOf (b:TBlock) (k:Nat):Int:=match (places (TBlock.Design b))[k]? with
 | some p=>if p.2.2.2.1=true then 0 else match (TBlock.Wires b)[p.2.2.1.toNat]? with
  | some w=>((TWire.Sink w)[nth (places (TBlock.Design b)) p.2.2.1 k]?).getD 0
  | none=>0
 | none=>0
def setSink (w:TWire) (l:List Int):TWire:=(TWire.Parent w,TWire.Res w,TWire.Cap w,l,())
def wired (pl:List Pl) (ws:List TWire) (nd:Nat→Int):List TWire:=cat (fun v w=>[setSink w ((cat (sinkF (v:Int)) 0 pl).map (fun k=>nd k.toNat))]) 0 ws
theorem wired_get (pl:List Pl) (ws:List TWire) (nd:Nat→Int) (v:Nat):(wired pl ws nd)[v]?=(ws[v]?).map (fun w=>setSink w ((cat (sinkF (v:Int)) 0 pl).map (fun k=>nd k.toNat))):=by
 unfold wired
 rw [cat_one_get,Nat.zero_add]
theorem wired_len (pl:List Pl) (ws:List TWire) (nd:Nat→Int):(wired pl ws nd).length=ws.length:=cat_one_length _ _
def wiredTo (pl:List Pl) (ws:List TWire) (nd:Nat→Int) (k:Nat):List TWire:=wired (pl.take k) ws nd
theorem wiredTo_step {pl:List Pl} {ws:List TWire} {nd:Nat→Int} {k:Nat} {p:Pl} {w:TWire} (hp:pl[k]?=some p) (h2:p.2.2.2.1=false) (h0:0≤p.2.2.1) (hw:ws[p.2.2.1.toNat]?=some w) :
  (wiredTo pl ws nd k)[p.2.2.1.toNat]?=some (setSink w ((cat (sinkF p.2.2.1) 0 (pl.take k)).map (fun k=>nd k.toNat)))∧
  (wiredTo pl ws nd k).set p.2.2.1.toNat (setSink w ((cat (sinkF p.2.2.1) 0 (pl.take k)).map (fun k=>nd k.toNat)++[nd k]))=wiredTo pl ws nd (k+1):=by
 have hk:=(List.getElem?_eq_some_iff.1 hp).1
 have hlt:=(List.getElem?_eq_some_iff.1 hw).1
 unfold wiredTo
 constructor
 ·rw [wired_get,hw,show ((p.2.2.1.toNat:Nat):Int)=p.2.2.1 by omega]
  rfl
 ·apply List.ext_getElem?
  intro v
  rw [List.getElem?_set,wired_get,wired_get]
  have hs:∀ net:Int,cat (sinkF net) 0 (pl.take (k+1))=cat (sinkF net) 0 (pl.take k)++sinkF net k p:=fun net=>cat_snoc hp
  split
  ·rename_i e
   subst e
   rw [wired_len,if_pos hlt,hw,hs,show ((p.2.2.1.toNat:Nat):Int)=p.2.2.1 by omega,sinkF_yes rfl h2,List.map_append]
   simp only [List.map_cons,List.map_nil,Int.toNat_natCast,Option.map_some]
  ·rename_i e
   congr 1
   funext w'
   congr 1
   rw [hs,sinkF_not (fun q=>e (by have:=q.1;omega)),List.append_nil]
theorem wiredTo_skip {pl:List Pl} {ws:List TWire} {nd:Nat→Int} {k:Nat} {p:Pl} (hp:pl[k]?=some p) (h2:p.2.2.2.1=true):wiredTo pl ws nd (k+1)=wiredTo pl ws nd k:=by
 unfold wiredTo
 apply List.ext_getElem?
 intro v
 rw [wired_get,wired_get]
 congr 1
 funext w'
 congr 1
 rw [cat_snoc hp,sinkF_not (fun q=>by rw [h2] at q;cases q.2),List.append_nil]
end Go.Proofs.YtpkjjgdhmafonaaGreatDoor
/-
  Plain laws: maps by their keys.
-/
namespace Go.Proofs.YtpkjjgdhmafonaaGreatDoor
set_option linter.unusedVariables false
set_option linter.unusedSimpArgs false
open Go Go.Sx
abbrev Key:Ty:=.pair (.int .i64) (.pair (.int .i64) .unit)
theorem keq_key (x y:Key.den):keq Key x y=true↔x=y:=by
 obtain ⟨a,b,⟨⟩⟩:=x
 obtain ⟨c,d,⟨⟩⟩:=y
 simp [keq]
theorem mget_mput {k v:Ty} (hk:∀ x y:k.den,keq k x y=true↔x=y) (x z:k.den) (y:v.den):∀ (d:List (k.den×v.den)),mget k v (mput k v d x y) z=if keq k z x=true then some y else mget k v d z
 | []=>by simp only [mput,mget]
 | e::l=>by
  by_cases h1:keq k x e.1=true
  ·simp only [mput,if_pos h1,mget]
   by_cases h2:keq k z x=true
   ·simp only [if_pos h2]
   ·have h3:¬keq k z e.1=true:=fun q=>h2 ((hk _ _).2 (((hk _ _).1 q).trans ((hk _ _).1 h1).symm))
    simp only [if_neg h2,if_neg h3]
  ·simp only [mput,if_neg h1,mget]
   by_cases h3:keq k z e.1=true
   ·have h2:¬keq k z x=true:=fun q=>h1 ((hk _ _).2 (((hk _ _).1 q).symm.trans ((hk _ _).1 h3)))
    simp only [if_pos h3,if_neg h2]
   ·simp only [if_neg h3,mget_mput hk x z y l]
theorem mget_same {v:Ty} (d:List (Key.den×v.den)) (x:Key.den) (y:v.den):mget Key v (mput Key v d x y) x=some y:=by
 rw [mget_mput keq_key,if_pos ((keq_key _ _).2 rfl)]
theorem mget_other {v:Ty} (d:List (Key.den×v.den)) {x z:Key.den} (y:v.den) (h:z≠x):mget Key v (mput Key v d x y) z=mget Key v d z:=by
 rw [mget_mput keq_key,if_neg (fun q=>h ((keq_key _ _).1 q))]
end Go.Proofs.YtpkjjgdhmafonaaGreatDoor
/-
  Plain laws: nodes by keys against nodes by places; kept when a place is put on another net, when an instance is added or removed.
-/
namespace Go.Proofs.YtpkjjgdhmafonaaGreatDoor
set_option linter.unusedVariables false
set_option linter.unusedSimpArgs false
open Go Go.Sx
abbrev NodeMap:=List (Key.den×(Ty.int .i64).den)
def keyP (p:Pl):Key.den:=(p.1,p.2.1,())
def Maps (nodes:NodeMap) (pl:List Pl) (nd:Nat→Int):Prop:=∀ (k:Nat) (p:Pl),pl[k]?=some p→p.2.2.2.1=false→mget Key (.int .i64) nodes (keyP p)=some (nd k)
theorem keyP_inj {d:TDesign} {k k':Nat} {p p':Pl} (hp:(places d)[k]?=some p) (hp':(places d)[k']?=some p') (h:keyP p=keyP p'):k=k':=by
 unfold keyP at h
 injection h with h1 h2
 injection h2 with h2 _
 exact key_inj hp hp' h1 h2
theorem Maps.put {nodes:NodeMap} {d:TDesign} {nd:Nat→Int} (h:Maps nodes (places d) nd) {k0:Nat} {p0:Pl} (hp0:(places d)[k0]?=some p0) (v:Int):Maps (mput Key (.int .i64) nodes (keyP p0) v) (places d) (fun k=>if k=k0 then v else nd k):=by
 intro k p hp hd
 by_cases e:k=k0
 ·subst e
  rw [hp0] at hp
  injection hp with hp
  subst hp
  simp only [if_true]
  exact mget_same _ _ _
 ·simp only [if_neg e]
  rw [mget_other _ _ (fun q=>e (keyP_inj hp hp0 q))]
  exact h k p hp hd
theorem Maps.set {nodes:NodeMap} {pl:List Pl} {nd:Nat→Int} (h:Maps nodes pl nd) {k0:Nat} {p0:Pl} (hp0:pl[k0]?=some p0) (n:Int):Maps nodes (pl.set k0 (p0.1,p0.2.1,n,p0.2.2.2.1,())) nd:=by
 intro k p hp hd
 by_cases e:k0=k
 ·subst e
  rw [List.getElem?_set_self (List.getElem?_eq_some_iff.1 hp0).1] at hp
  injection hp with hp
  subst hp
  exact h k0 p0 hp0 hd
 ·rw [List.getElem?_set_ne e] at hp
  exact h k p hp hd
def addInst (d:TDesign) (x:TInstance) (s:List UInt8):TDesign:=(TDesign.Instances d++[x],TDesign.Nets d++[s],TDesign.Ports d,())
theorem places_add (d:TDesign) (x:TInstance) (s:List UInt8):places (addInst d x s)=cat instPl 0 (TDesign.Instances d)++instPl (TDesign.Instances d).length x++cat portPl 0 (TDesign.Ports d):=by
 unfold places addInst
 show cat instPl 0 (TDesign.Instances d++[x])++_=_
 rw [cat_append,Nat.zero_add]
 simp only [cat,List.append_nil]
theorem add_lo {d:TDesign} {x:TInstance} {s:List UInt8} {k:Nat} (hk:k<insPl d):(places (addInst d x s))[k]?=(places d)[k]?:=by
 rw [places_add,List.append_assoc,List.getElem?_append_left hk]
 unfold places
 rw [List.getElem?_append_left hk]
theorem add_hi {d:TDesign} {x:TInstance} {s:List UInt8} {k:Nat} (hk:insPl d≤k):(places (addInst d x s))[k+(TInstance.Nets x).length]?=(places d)[k]?:=by
 have h1:(cat instPl 0 (TDesign.Instances d)).length≤k:=hk
 rw [places_add,List.getElem?_append_right (by rw [List.length_append,instPl_length];omega),List.length_append,instPl_length]
 unfold places
 rw [List.getElem?_append_right h1]
 congr 1
 omega
def cutInst (d:TDesign):TDesign:=((TDesign.Instances d).take ((TDesign.Instances d).length-1),(TDesign.Nets d).take ((TDesign.Nets d).length-1),TDesign.Ports d,())
theorem cut_add {d:TDesign} {x:TInstance} (hn:0<(TDesign.Instances d).length) (hx:(TDesign.Instances d)[(TDesign.Instances d).length-1]?=some x):TDesign.Instances d=TDesign.Instances (cutInst d)++[x]:=by
 show TDesign.Instances d=(TDesign.Instances d).take ((TDesign.Instances d).length-1)++[x]
 rw [←take_snoc hx,show (TDesign.Instances d).length-1+1=(TDesign.Instances d).length by omega,List.take_length]
theorem places_cut {d:TDesign} {x:TInstance} {s:List UInt8} (hn:0<(TDesign.Instances d).length) (hx:(TDesign.Instances d)[(TDesign.Instances d).length-1]?=some x):places d=places (addInst (cutInst d) x s):=by
 unfold places
 show cat instPl 0 (TDesign.Instances d)++cat portPl 0 (TDesign.Ports d)=cat instPl 0 (TDesign.Instances (cutInst d)++[x])++cat portPl 0 (TDesign.Ports d)
 rw [←cut_add hn hx]
def ndCut (nd:Nat→Int) (m:Nat) (k:Nat):Int:=if k<m then nd k else nd (k+2)
theorem Maps.cut {nodes:NodeMap} {d:TDesign} {nd:Nat→Int} (h:Maps nodes (places d) nd) {x:TInstance} (hn:0<(TDesign.Instances d).length) (hx:(TDesign.Instances d)[(TDesign.Instances d).length-1]?=some x) (h2:(TInstance.Nets x).length=2) :
  Maps nodes (places (cutInst d)) (ndCut nd (insPl (cutInst d))):=by
 rw [places_cut (s:=[]) hn hx] at h
 intro k p hp hd
 unfold ndCut
 by_cases k1:k<insPl (cutInst d)
 ·rw [if_pos k1]
  exact h k p (by rw [add_lo k1];exact hp) hd
 ·rw [if_neg k1]
  have h3:=add_hi (d:=cutInst d) (x:=x) (s:=[]) (k:=k) (by omega)
  rw [h2,hp] at h3
  exact h (k+2) p h3 hd
end Go.Proofs.YtpkjjgdhmafonaaGreatDoor
/-
  Plain laws: the map of nodes, place by place; lists of nodes.
-/
namespace Go.Proofs.YtpkjjgdhmafonaaGreatDoor
set_option linter.unusedVariables false
set_option linter.unusedSimpArgs false
open Go Go.Sx
def nodesTo (pl:List Pl) (f:Nat→Int):Nat→NodeMap
 | 0=>[]
 | k+1=>match pl[k]? with
  | some p=>if p.2.2.2.1=true then nodesTo pl f k else mput Key (.int .i64) (nodesTo pl f k) (keyP p) (f k)
  | none=>nodesTo pl f k
theorem nodesTo_skip {pl:List Pl} {f:Nat→Int} {k:Nat} {p:Pl} (hp:pl[k]?=some p) (h:p.2.2.2.1=true):nodesTo pl f (k+1)=nodesTo pl f k:=by
 simp only [nodesTo,hp,h,if_true]
theorem nodesTo_put {pl:List Pl} {f:Nat→Int} {k:Nat} {p:Pl} (hp:pl[k]?=some p) (h:¬p.2.2.2.1=true):nodesTo pl f (k+1)=mput Key (.int .i64) (nodesTo pl f k) (keyP p) (f k):=by
 simp only [nodesTo,hp,h,if_false]
 rfl
theorem nodesTo_maps (d:TDesign) (f:Nat→Int):∀ (k:Nat),k≤(places d).length→∀ (j:Nat) (p:Pl),j<k→(places d)[j]?=some p→p.2.2.2.1=false→mget Key (.int .i64) (nodesTo (places d) f k) (keyP p)=some (f j)
 | 0,_,j,p,hj,_,_=>by omega
 | k+1,hk,j,p,hj,hp,hd=>by
  have hq:(places d)[k]?=some (places d)[k]:=List.getElem?_eq_getElem (by omega)
  generalize (places d)[k]=q at hq
  by_cases hqd:q.2.2.2.1=true
  ·rw [nodesTo_skip hq hqd]
   refine nodesTo_maps d f k (by omega) j p ?_ hp hd
   by_cases e:j=k
   ·subst e
    rw [hp] at hq
    injection hq with hq
    subst hq
    rw [hqd] at hd;cases hd
   ·omega
  ·rw [nodesTo_put hq hqd]
   by_cases e:j=k
   ·subst e
    rw [hp] at hq
    injection hq with hq
    subst hq
    exact mget_same _ _ _
   ·rw [mget_other _ _ (fun h=>e (keyP_inj hp hq h))]
    exact nodesTo_maps d f k (by omega) j p (by omega) hp hd
theorem nodes_maps (d:TDesign) (f:Nat→Int):Maps (nodesTo (places d) f (places d).length) (places d) f:=fun k p hp hd=>nodesTo_maps d f _ (Nat.le_refl _) k p (List.getElem?_eq_some_iff.1 hp).1 hp hd
end Go.Proofs.YtpkjjgdhmafonaaGreatDoor
/-
  Plain laws: what edits make of designs, of nodes by place.
-/
namespace Go.Proofs.YtpkjjgdhmafonaaGreatDoor
set_option linter.unusedVariables false
set_option linter.unusedSimpArgs false
open Go Go.Sx
theorem conn_insts {d:TDesign} {a b n:Int}:(TDesign.Instances (conn d a b n)).length=(TDesign.Instances d).length:=by
 unfold conn
 split
 ·rfl
 ·show (match (TDesign.Instances d)[a.toNat]? with | some x=>(TDesign.Instances d).set a.toNat (setPin x b.toNat n) | none=>TDesign.Instances d).length=_
  split
  ·rw [List.length_set]
  ·rfl
theorem conn_nets {d:TDesign} {a b n:Int}:TDesign.Nets (conn d a b n)=TDesign.Nets d:=by
 unfold conn
 split<;>rfl
theorem conn_ports {d:TDesign} {a b n:Int}:(TDesign.Ports (conn d a b n)).length=(TDesign.Ports d).length:=by
 unfold conn
 split
 ·show (match (TDesign.Ports d)[b.toNat]? with | some x=>(TDesign.Ports d).set b.toNat (setPort x n) | none=>TDesign.Ports d).length=_
  split
  ·rw [List.length_set]
  ·rfl
 ·rfl
theorem conn_inst {d:TDesign} {a b n:Int} {i:Nat} {y:TInstance} (hy:(TDesign.Instances (conn d a b n))[i]?=some y):∃ x,(TDesign.Instances d)[i]?=some x∧TInstance.Name y=TInstance.Name x∧TInstance.Cell y=TInstance.Cell x∧(TInstance.Nets y).length=(TInstance.Nets x).length∧((i:Int)≠a→y=x)∧∀ m∈TInstance.Nets y,m∈TInstance.Nets x∨m=n:=by
 unfold conn at hy
 split at hy
 ·exact ⟨y,hy,rfl,rfl,rfl,fun _=>rfl,fun m hm=>.inl hm⟩
 ·rename_i h
  have hy:(match (TDesign.Instances d)[a.toNat]? with | some x=>(TDesign.Instances d).set a.toNat (setPin x b.toNat n) | none=>TDesign.Instances d)[i]?=some y:=hy
  split at hy
  ·rename_i x hx
   rw [List.getElem?_set] at hy
   split at hy
   ·rename_i e
    split at hy
    ·injection hy with hy
     subst hy
     refine ⟨x,by rw [←e];exact hx,rfl,rfl,List.length_set,fun q=>absurd (by omega) q,fun m hm=>?_⟩
     rcases List.mem_or_eq_of_mem_set hm with hm | hm
     ·exact .inl hm
     ·exact .inr hm
    ·cases hy
   ·exact ⟨y,hy,rfl,rfl,rfl,fun _=>rfl,fun m hm=>.inl hm⟩
  ·exact ⟨y,hy,rfl,rfl,rfl,fun _=>rfl,fun m hm=>.inl hm⟩
theorem Few.conn {d:TDesign} (h:Few d) (a b n:Int):Few (conn d a b n):=by
 refine ⟨by rw [conn_insts];exact h.insts,by rw [conn_ports];exact h.ports,fun y hy=>?_⟩
 obtain ⟨i,hi⟩:=List.getElem?_of_mem hy
 obtain ⟨x,hx,_,_,hl,_⟩:=conn_inst hi
 rw [hl]
 exact h.nets x (List.mem_of_getElem? hx)
theorem Few.cut {d:TDesign} (h:Few d):Few (cutInst d):=by
 refine ⟨?_,h.ports,fun y hy=>h.nets y (List.mem_of_mem_take (show y∈(TDesign.Instances d).take _ from hy))⟩
 show ((TDesign.Instances d).take _).length≤14
 rw [List.length_take]
 have:=h.insts
 omega
def NetsIn (pl:List Pl) (n:Nat):Prop:=∀ p∈pl,p.2.2.2.1=false→0≤p.2.2.1∧p.2.2.1<(n:Int)
theorem NetsIn.set {pl:List Pl} {n:Nat} (h:NetsIn pl n) {k0:Nat} {p0:Pl} {m:Int} (h0:0≤m) (h1:m<(n:Int)):NetsIn (pl.set k0 (p0.1,p0.2.1,m,p0.2.2.2.1,())) n:=by
 intro p hp hd
 rcases List.mem_or_eq_of_mem_set hp with hp | hp
 ·exact h p hp hd
 ·subst hp;exact ⟨h0,h1⟩
def unD (b:TBlock) (p:Pl) (m:Int):TDesign:=cutInst (conn (TBlock.Design b) p.1 p.2.1 m)
end Go.Proofs.YtpkjjgdhmafonaaGreatDoor
/-
  Plain laws: clones are what they are made of.
-/
namespace Go.Proofs.YtpkjjgdhmafonaaGreatDoor
set_option linter.unusedVariables false
set_option linter.unusedSimpArgs false
open Go Go.Sx
theorem set_same {α:Type} {l:List α} {k:Nat} {x:α} (hx:l[k]?=some x):l.set k x=l:=by
 apply List.ext_getElem?
 intro j
 rw [List.getElem?_set]
 split
 ·rename_i e;subst e
  rw [if_pos (List.getElem?_eq_some_iff.1 hx).1,hx]
 ·rfl
theorem clone_ints (l:List Int) (h:l.length≤1048576):slices_Clone_Sint64_int64 l=some l:=by
 unfold slices_Clone_Sint64_int64
 rw [guardO_pos (by rw [List.length_nil];omega)];rfl
theorem own_ints (l:List Int) (h:l.length≤1048576):spec_l02Ints l=some l:=by
 unfold spec_l02Ints
 rw [guardO_pos (by rw [List.length_nil];omega)];rfl
theorem impl_Wire_clone_eq (w:TWire) (hw:sm tWire w):impl_Wire_clone w=some w:=by
 obtain ⟨a1,a2,a3,a4⟩:=smWire hw
 unfold impl_Wire_clone
 rw [clone_ints _ (small_of_sm a1),Option.bind_some,clone_ints _ (small_of_sm a2),Option.bind_some,clone_ints _ (small_of_sm a3),Option.bind_some,clone_ints _ (small_of_sm a4),Option.bind_some]
theorem spec_ownWire_eq (w:TWire) (hw:sm tWire w):spec_l07OwnWire w=some w:=by
 obtain ⟨a1,a2,a3,a4⟩:=smWire hw
 unfold spec_l07OwnWire
 rw [own_ints _ (small_of_sm a1),Option.bind_some,own_ints _ (small_of_sm a2),Option.bind_some,own_ints _ (small_of_sm a3),Option.bind_some,own_ints _ (small_of_sm a4),Option.bind_some]
theorem impl_Design_clone_eq (d:TDesign) (hd:sm tDesign d):impl_Design_clone d=some d:=by
 obtain ⟨s1,s2,s3⟩:=smDesign hd
 have l1:=small_of_sm s1
 have l2:=small_of_sm s2
 have l3:=small_of_sm s3
 unfold impl_Design_clone slices_Clone_Simpl_Instance_impl_Instance slices_Clone_Sstring_string slices_Clone_Simpl_Port_impl_Port
 rw [guardO_pos (by rw [List.length_nil];omega),Option.bind_some,guardO_pos (by rw [List.length_nil];omega),Option.bind_some,guardO_pos (by rw [List.length_nil];omega),Option.bind_some]
 simp only [List.nil_append]
 refine loopThrough (l:=TDesign.Instances d) (fun k=>((k:Int),(TDesign.Instances d,(k:Int)),())) (fun k x hx hk=>?_) ?_
 ·have hx2:=clone_ints (TInstance.Nets x) (small_of_sm (smInst (sm_get s1 hx)).2)
  simp only [impl_Design_clone_loop0,show (k:Int)<((TDesign.Instances d).length:Int) by omega,if_true,atI_nat,hx,Option.bind_some,Int.le_refl,hx2,guardO_pos trivial,W_suc (show k≤1048576 by omega),Int.toNat_natCast]
  rw [show List.set (TDesign.Instances d) k (TInstance.Name x,TInstance.Cell x,TInstance.Nets x,())=TDesign.Instances d from set_same hx]
  rfl
 ·simp only [impl_Design_clone_loop0,Int.lt_irrefl,if_false,guardO_pos trivial]
theorem impl_cloneTables_eq (l:List TTable) (hl:sm (.sl tTable) l):impl_cloneTables l=some l:=by
 have h1:=small_of_sm hl
 unfold impl_cloneTables
 have:=loopThrough (l:=l) (fun k=>(l.take k,(k:Int),())) (step:=fun v=>impl_cloneTables_loop0 l v.1 v.2.1) (good:=l) (fun k x hx hk=>by
  have hs:sm tTable x:=sm_get hl hx
  have e1:=clone_ints (TTable.Slews x) (small_of_sm (t:=.int .i64) hs.1)
  have e2:=clone_ints (TTable.Loads x) (small_of_sm (t:=.int .i64) hs.2.1)
  have e3:=clone_ints (TTable.Values x) (small_of_sm (t:=.int .i64) hs.2.2.1)
  have hg:((l.take k).length+[(TTable.Slews x,TTable.Loads x,TTable.Values x,())].length)*72≤140737488355328:=by rw [List.length_take,List.length_singleton];omega
  simp only [impl_cloneTables_loop0,show (k:Int)<(l.length:Int) by omega,if_true,atI_nat,hx,Option.bind_some,e1,e2,e3,guardO_pos hg,W_suc (show k≤1048576 by omega)]
  rw [take_snoc hx]) (by
  simp only [impl_cloneTables_loop0,Int.lt_irrefl,if_false,List.take_length])
 simpa using this
theorem impl_cloneLibrary_eq (a:TLibrary) (ha:sm tLibrary a):impl_cloneLibrary a=some a:=by
 have hc:=smLib ha
 have h1:=small_of_sm hc
 unfold impl_cloneLibrary
 have:=loopThrough (l:=TLibrary.Cells a) (fun k=>((k:Int),(TLibrary.Cells a).take k,())) (step:=fun v=>impl_cloneLibrary_loop1 a v.1 v.2.1) (good:=a) (fun k x hx hk=>by
  have hs:sm tCell x:=sm_get hc hx
  have p1:sm (.sl tPin) (TCell.Pins x):=hs.2.2.1
  have p2:sm (.sl tArc) (TCell.Arcs x):=hs.2.2.2.1
  have p3:sm (.sl (.int .i64)) (TCell.Truth x):=hs.2.2.2.2.1
  have l1:=small_of_sm p1
  have l2:=small_of_sm p2
  have l3:=small_of_sm p3
  simp only [impl_cloneLibrary_loop1,show (k:Int)<((TLibrary.Cells a).length:Int) by omega,if_true,atI_nat,hx,Option.bind_some]
  unfold slices_Clone_Simpl_Pin_impl_Pin slices_Clone_Simpl_Arc_impl_Arc
  rw [guardO_pos (by rw [List.length_nil];omega),Option.bind_some,clone_ints _ l3,Option.bind_some,guardO_pos (by rw [List.length_nil];omega),Option.bind_some]
  simp only [List.nil_append]
  have hg:∀ y:TCell,(((TLibrary.Cells a).take k).length+[y].length)*112≤140737488355328:=fun y=>by rw [List.length_take,List.length_singleton];omega
  refine loopThrough (l:=TCell.Arcs x) (fun j=>((j:Int),(TCell.Arcs x,(j:Int)),())) (fun j y hy hj=>?_) ?_
  ·obtain ⟨q1,q2⟩:=smArc (sm_get p2 hy)
   simp only [impl_cloneLibrary_loop0,show (j:Int)<((TCell.Arcs x).length:Int) by omega,if_true,atI_nat,hy,Option.bind_some,Int.le_refl,impl_cloneTables_eq _ q1,impl_cloneTables_eq _ q2,guardO_pos trivial,W_suc (show j≤1048576 by omega),Int.toNat_natCast]
   rw [show List.set (TCell.Arcs x) j (TArc.Kind y,TArc.From y,TArc.To y,TArc.Sense y,TArc.Delay y,TArc.Slew y,())=TCell.Arcs x from set_same hy]
   rfl
  ·simp only [impl_cloneLibrary_loop0,Int.lt_irrefl,if_false,guardO_pos trivial,guardO_pos (hg _),W_suc (show k≤1048576 by omega)]
   rw [take_snoc hx]) (by
  simp only [impl_cloneLibrary_loop1,Int.lt_irrefl,if_false,List.take_length])
 simpa using this
theorem impl_Block_clone_eq (b:TBlock) (hb:sm tBlock b):impl_Block_clone b=some b:=by
 obtain ⟨b1,b2,b3⟩:=smBlock hb
 have h1:=small_of_sm b3
 unfold impl_Block_clone
 rw [impl_cloneLibrary_eq _ b1,Option.bind_some,impl_Design_clone_eq _ b2,Option.bind_some]
 have:=loopThrough (l:=TBlock.Wires b) (fun k=>((k:Int),(TBlock.Wires b).take k,())) (step:=fun v=>impl_Block_clone_loop0 b (TBlock.Library b) (TBlock.Design b) v.1 v.2.1) (good:=b) (fun k x hx hk=>by
  have hg:(((TBlock.Wires b).take k).length+[x].length)*96≤140737488355328:=by rw [List.length_take,List.length_singleton];omega
  simp only [impl_Block_clone_loop0,show (k:Int)<((TBlock.Wires b).length:Int) by omega,if_true,atI_nat,hx,Option.bind_some,impl_Wire_clone_eq x (sm_get b3 hx),guardO_pos hg,W_suc (show k≤1048576 by omega)]
  rw [take_snoc hx]) (by
  simp only [impl_Block_clone_loop0,Int.lt_irrefl,if_false,List.take_length])
 simpa using this
end Go.Proofs.YtpkjjgdhmafonaaGreatDoor
/-
  Plain laws: the nodes of all sinks, by key (program) and by place (reference).
-/
namespace Go.Proofs.YtpkjjgdhmafonaaGreatDoor
set_option linter.unusedVariables false
set_option linter.unusedSimpArgs false
open Go Go.Sx
theorem nth_yes {pl:List Pl} {k:Nat} {p:Pl} (hp:pl[k]?=some p) (h2:p.2.2.2.1=false):nth pl p.2.2.1 (k+1)=nth pl p.2.2.1 k+1:=by
 unfold nth
 rw [cat_snoc hp,sinkF_yes rfl h2,List.length_append,List.length_singleton]
theorem nth_no {pl:List Pl} {net:Int} {k:Nat} {p:Pl} (hp:pl[k]?=some p) (h:¬(p.2.2.1=net∧p.2.2.2.1=false)):nth pl net (k+1)=nth pl net k:=by
 unfold nth
 rw [cat_snoc hp,sinkF_not h,List.append_nil]
def seen (pl:List Pl) (n k:Nat):List Int:=(List.range n).map (fun (v:Nat)=>((nth pl (v:Int) k:Nat):Int))
theorem seen_get {pl:List Pl} {n k v:Nat} (hv:v<n):(seen pl n k)[v]?=some ((nth pl (v:Int) k:Nat):Int):=by
 unfold seen
 rw [List.getElem?_map,List.getElem?_range hv];rfl
theorem seen_zero (pl:List Pl) (n:Nat):List.replicate n (0:Int)=seen pl n 0:=by
 apply List.ext_getElem?
 intro v
 by_cases hv:v<n
 ·rw [seen_get hv,List.getElem?_replicate,if_pos hv]
  unfold nth
  simp [cat]
 ·rw [List.getElem?_eq_none (by simp;omega),List.getElem?_eq_none (by unfold seen;simp;omega)]
theorem seen_yes {pl:List Pl} {n k:Nat} {p:Pl} (hp:pl[k]?=some p) (h2:p.2.2.2.1=false) (h0:0≤p.2.2.1) (h1:p.2.2.1<(n:Int)):(seen pl n k).set p.2.2.1.toNat (((nth pl p.2.2.1 k+1:Nat):Int))=seen pl n (k+1):=by
 apply List.ext_getElem?
 intro v
 by_cases hv:v<n
 ·rw [List.getElem?_set,seen_get hv,seen_get hv]
  split
  ·rename_i e
   rw [if_pos (by unfold seen;simp;omega)]
   subst e
   rw [show ((p.2.2.1.toNat:Nat):Int)=p.2.2.1 by omega,nth_yes hp h2]
  ·rename_i e
   rw [nth_no hp (fun q=>e (by have:=q.1;omega))]
 ·rw [List.getElem?_eq_none (by unfold seen;simp;omega),List.getElem?_eq_none (by unfold seen;simp;omega)]
theorem seen_no {pl:List Pl} {n k:Nat} {p:Pl} (hp:pl[k]?=some p) (h2:p.2.2.2.1=true):seen pl n (k+1)=seen pl n k:=by
 unfold seen
 apply List.map_congr_left
 intro v _
 rw [nth_no hp (fun q=>by rw [h2] at q;cases q.2)]
theorem node_at {b:TBlock} (h:BlkSm b) {k:Nat} {p:Pl} (hp:(places (TBlock.Design b))[k]?=some p) (h2:p.2.2.2.1=false) :
  ∃ w,atI (TBlock.Wires b) p.2.2.1=some w∧(TBlock.Wires b)[p.2.2.1.toNat]?=some w∧atI (TWire.Sink w) ((nth (places (TBlock.Design b)) p.2.2.1 k:Nat):Int)=some (nodeOf b k)∧WireOk w ((sinks (TBlock.Design b) p.2.2.1).length:Int):=by
 have hn:=place_net h.ok.1 (List.mem_of_getElem? hp)
 obtain ⟨w,hw1,hw2,hw3⟩:=wire_at h hn
 have hlt:=nth_lt hp rfl h2
 have hs:=hw3.2.2.2.1
 have hlt2:nth (places (TBlock.Design b)) p.2.2.1 k<(TWire.Sink w).length:=by
  have:(sinks (TBlock.Design b) p.2.2.1).length=(cat (sinkF p.2.2.1) 0 (places (TBlock.Design b))).length:=rfl
  omega
 refine ⟨w,hw2,hw1,?_,hw3⟩
 rw [atI_nat]
 have e:nodeOf b k=((TWire.Sink w)[nth (places (TBlock.Design b)) p.2.2.1 k]?).getD 0:=by
  unfold nodeOf
  simp only [hp,h2,hw1]
  rfl
 rw [e,List.getElem?_eq_getElem hlt2]
 rfl
theorem impl_nodesOf_eq {b:TBlock} (h:BlkSm b):impl_Block_nodesOf b=some (nodesTo (places (TBlock.Design b)) (nodeOf b) (places (TBlock.Design b)).length):=by
 have hf:=h.ok.1.few
 have hpl:=places_len hf
 have h30:=h.ok.1.2.1.2.1
 have hwn:=h.ok.2.1
 have hwl:(TBlock.Wires b).length≤1048576:=small_of_sm (smBlock h.sm).2.2
 unfold impl_Block_nodesOf
 rw [guardO_pos (by omega),guardO_pos (by omega),guardO_pos (by omega),guardO_pos (by omega),impl_Design_places_eq _ hf,Option.bind_some,Int.toNat_natCast,seen_zero (places (TBlock.Design b))]
 refine loopThrough (l:=places (TBlock.Design b)) (fun k=>((k:Int),nodesTo (places (TBlock.Design b)) (nodeOf b) k,seen (places (TBlock.Design b)) (TBlock.Wires b).length k,())) (fun k p hp hk=>?_) ?_
 ·simp only [impl_Block_nodesOf_loop0,show (k:Int)<((places (TBlock.Design b)).length:Int) by omega,if_true,atI_nat,hp,Option.bind_some,W_suc (show k≤1048576 by omega)]
  have e1:Tplace.drives p=p.2.2.2.1:=rfl
  have e2:Tplace.net p=p.2.2.1:=rfl
  by_cases h2:p.2.2.2.1=true
  ·rw [e1,if_pos h2,nodesTo_skip hp h2,seen_no hp h2]
  ·have h2':p.2.2.2.1=false:=by simpa using h2
   obtain ⟨w,hw1,hw2,hw3,hw4⟩:=node_at h hp h2'
   have hn:=place_net h.ok.1 (List.mem_of_getElem? hp)
   have hv:p.2.2.1<((TBlock.Wires b).length:Int):=by have:=hn.2;omega
   have hs:atI (seen (places (TBlock.Design b)) (TBlock.Wires b).length k) p.2.2.1=some ((nth (places (TBlock.Design b)) p.2.2.1 k:Nat):Int):=by
    refine atI_some hn.1 ?_
    rw [seen_get (by have:=hn.1;omega),show ((p.2.2.1.toNat:Nat):Int)=p.2.2.1 by have:=hn.1;omega]
   have hlt:=nth_lt hp rfl h2'
   have hlc:=sinkF_len p.2.2.1 (places (TBlock.Design b)) 0
   rw [e1,if_neg h2,e2,hw1,Option.bind_some,hs,Option.bind_some,hw3,Option.bind_some,W_suc (show nth (places (TBlock.Design b)) p.2.2.1 k≤1048576 by omega),seen_yes hp h2' hn.1 hv,nodesTo_put hp h2]
   rfl
 ·simp only [impl_Block_nodesOf_loop0,Int.lt_irrefl,if_false]
end Go.Proofs.YtpkjjgdhmafonaaGreatDoor
/-
  Plain laws: the reference's nodes by place.
-/
namespace Go.Proofs.YtpkjjgdhmafonaaGreatDoor
set_option linter.unusedVariables false
set_option linter.unusedSimpArgs false
open Go Go.Sx
theorem sinks_of {pl:List Pl} {net:Int}:∀ (n:Nat),n≤pl.length→∀ (i:Nat) (x:Int),(cat (sinkF net) 0 (pl.take n))[i]?=some x→
  ∃ (k:Nat) (p:Pl),k<n∧pl[k]?=some p∧x=(k:Int)∧p.2.2.1=net∧p.2.2.2.1=false∧nth pl net k=i
 | 0,_,i,x,h=>by simp [cat] at h
 | n+1,hn,i,x,h=>by
  have hp:pl[n]?=some pl[n]:=List.getElem?_eq_getElem (by omega)
  generalize pl[n]=p at hp
  rw [cat_snoc hp] at h
  by_cases hi:i<(cat (sinkF net) 0 (pl.take n)).length
  ·rw [List.getElem?_append_left hi] at h
   obtain ⟨k,q,a,r⟩:=sinks_of n (by omega) i x h
   exact ⟨k,q,by omega,r⟩
  ·rw [List.getElem?_append_right (by omega)] at h
   by_cases hs:p.2.2.1=net∧p.2.2.2.1=false
   ·rw [sinkF_yes hs.1 hs.2] at h
    have h0:=(List.getElem?_eq_some_iff.1 h).1
    rw [List.length_singleton] at h0
    rw [show i-(cat (sinkF net) 0 (pl.take n)).length=0 by omega] at h
    injection h with h
    exact ⟨n,p,by omega,hp,h.symm,hs.1,hs.2,by unfold nth;omega⟩
   ·rw [sinkF_not hs] at h
    cases h
theorem sinks_at {pl:List Pl} {net:Int} {i:Nat} {x:Int} (h:(cat (sinkF net) 0 pl)[i]?=some x) :
  ∃ (k:Nat) (p:Pl),pl[k]?=some p∧x=(k:Int)∧p.2.2.1=net∧p.2.2.2.1=false∧nth pl net k=i:=by
 obtain ⟨k,p,_,r⟩:=sinks_of (pl:=pl) (net:=net) pl.length (Nat.le_refl _) i x (by rw [List.take_length];exact h)
 exact ⟨k,p,r⟩
def filled (b:TBlock) (P:Nat→Pl→Bool):List Int:=cat (fun k p=>[if P k p=true then nodeOf b k else 0]) 0 (places (TBlock.Design b))
theorem filled_get (b:TBlock) (P:Nat→Pl→Bool) (k:Nat):(filled b P)[k]?=((places (TBlock.Design b))[k]?).map (fun p=>if P k p=true then nodeOf b k else 0):=by
 unfold filled
 rw [cat_one_get,Nat.zero_add]
theorem filled_len (b:TBlock) (P:Nat→Pl→Bool):(filled b P).length=(places (TBlock.Design b)).length:=cat_one_length _ _
theorem filled_congr {b:TBlock} {P Q:Nat→Pl→Bool} (h:∀ (k:Nat) (p:Pl),(places (TBlock.Design b))[k]?=some p→P k p=Q k p):filled b P=filled b Q:=by
 apply List.ext_getElem?
 intro k
 rw [filled_get,filled_get]
 cases hp:(places (TBlock.Design b))[k]? with
 | none=>rfl
 | some p=>simp only [Option.map_some,h k p hp]
def pOut (v:Nat) (k:Nat) (p:Pl):Bool:=decide (p.2.2.1<(v:Int))&&!p.2.2.2.1
def pIn (b:TBlock) (v i:Nat) (k:Nat) (p:Pl):Bool:=!p.2.2.2.1&&(decide (p.2.2.1<(v:Int))||(decide (p.2.2.1=(v:Int))&&decide (nth (places (TBlock.Design b)) (v:Int) k<i)))
def nodeL (b:TBlock):List Int:=filled b (fun _ _=>true)
theorem nodeL_get {b:TBlock} {k:Nat} (hk:k<(places (TBlock.Design b)).length):(nodeL b)[k]?=some (nodeOf b k):=by
 unfold nodeL
 rw [filled_get,List.getElem?_eq_getElem hk]
 rfl
theorem spec_l08Nodes_eq {b:TBlock} (h:BlkSm b):spec_l08Nodes b=some (nodeL b):=by
 have hf:=h.ok.1.few
 have hpl:=places_len hf
 have h30:=h.ok.1.2.1.2.1
 have hwn:=h.ok.2.1
 have hwl:(TBlock.Wires b).length≤1048576:=small_of_sm (smBlock h.sm).2.2
 have first:List.replicate (places (TBlock.Design b)).length (0:Int)=filled b (pOut 0):=by
  apply List.ext_getElem?
  intro k
  rw [filled_get,List.getElem?_replicate]
  split
  ·rename_i hk
   have hp:=List.getElem?_eq_getElem hk
   rw [hp]
   have hn:=(place_net h.ok.1 (List.mem_of_getElem? hp)).1
   rw [Option.map_some,if_neg]
   unfold pOut
   simp only [Bool.and_eq_true,decide_eq_true_eq,not_and]
   intro q;omega
  ·rw [List.getElem?_eq_none (by omega)];rfl
 have last:filled b (pOut (TBlock.Wires b).length)=nodeL b:=by
  apply List.ext_getElem?
  intro k
  unfold nodeL
  rw [filled_get,filled_get]
  cases hp:(places (TBlock.Design b))[k]? with
  | none=>rfl
  | some p =>
   have hn:=(place_net h.ok.1 (List.mem_of_getElem? hp)).2
   simp only [Option.map_some,if_true]
   by_cases h2:p.2.2.2.1=true
   ·have:nodeOf b k=0:=by unfold nodeOf;simp only [hp,h2,if_true]
    simp only [this,ite_self]
   ·rw [if_pos]
    unfold pOut
    simp only [Bool.and_eq_true,decide_eq_true_eq,Bool.not_eq_true']
    exact ⟨by omega,by simpa using h2⟩
 unfold spec_l08Nodes
 rw [spec_l05Places_eq _ hf,Option.bind_some,guardO_pos (by omega),guardO_pos (by omega),guardO_pos (by omega),guardO_pos (by omega),Int.toNat_natCast,first]
 refine loopThrough (l:=TBlock.Wires b) (fun v=>((v:Int),filled b (pOut v),())) (fun v w hw hv=>?_) ?_
 ·simp only [spec_l08Nodes_loop1,show (v:Int)<((TBlock.Wires b).length:Int) by omega,if_true,spec_l05Sinks_eq _ _ hf,Option.bind_some]
  have e0:filled b (pOut v)=filled b (pIn b v 0):=filled_congr fun k p _=>by unfold pOut pIn;simp [Bool.and_comm]
  have e1:filled b (pIn b v (sinks (TBlock.Design b) (v:Int)).length)=filled b (pOut (v+1)):=filled_congr fun k p hp=>by
   unfold pOut pIn
   by_cases h2:p.2.2.2.1=true
   ·simp [h2]
   ·have h2':p.2.2.2.1=false:=by simpa using h2
    rw [h2',Bool.not_false,Bool.true_and,Bool.and_true]
    by_cases hq:p.2.2.1=(v:Int)
    ·have hlt:nth (places (TBlock.Design b)) (v:Int) k<(sinks (TBlock.Design b) (v:Int)).length:=nth_lt hp hq h2'
     rw [decide_eq_true hlt,decide_eq_true hq,decide_eq_true (show p.2.2.1<((v+1:Nat):Int) by omega)]
     simp
    ·rw [decide_eq_false hq,Bool.false_and,Bool.or_false]
     exact decide_eq_decide.2 (by omega)
  rw [e0]
  refine loopThrough (l:=sinks (TBlock.Design b) (v:Int)) (fun i=>((i:Int),filled b (pIn b v i),())) (fun i x hx hi=>?_) ?_
  ·obtain ⟨k,p,hp,ex,hn,h2,hnth⟩:=sinks_at (pl:=places (TBlock.Design b)) hx
   obtain ⟨w',hw1,hw2,hw3,hw4⟩:=node_at h hp h2
   have hk:=(List.getElem?_eq_some_iff.1 hp).1
   have hlc:=sinkF_len (v:Int) (places (TBlock.Design b)) 0
   have hlc2:(sinks (TBlock.Design b) (v:Int)).length≤(places (TBlock.Design b)).length:=hlc
   rw [hn,hnth] at hw3
   rw [hn] at hw1
   have hfk:(filled b (pIn b v i))[k]?=some ((filled b (pIn b v i))[k]'(by rw [filled_len];exact hk)):=List.getElem?_eq_getElem _
   simp only [spec_l08Nodes_loop0,show (i:Int)<((sinks (TBlock.Design b) (v:Int)).length:Int) by omega,if_true,atI_nat,hx,Option.bind_some,←atI_nat (TBlock.Wires b),hw1,←atI_nat (TWire.Sink w'),hw3,W_suc (show i≤1048576 by omega)]
   subst ex
   rw [atI_nat,hfk,Option.bind_some,Int.toNat_natCast]
   have:List.set (filled b (pIn b v i)) k (nodeOf b k)=filled b (pIn b v (i+1)):=by
    apply List.ext_getElem?
    intro j
    rw [List.getElem?_set,filled_len]
    split
    ·rename_i e
     subst e
     rw [filled_get,hp,Option.map_some,if_pos]
     unfold pIn
     rw [h2,hnth]
     simp [hn]
    ·rename_i e
     rw [filled_get,filled_get]
     cases hq:(places (TBlock.Design b))[j]? with
     | none=>rfl
     | some q =>
      have:pIn b v i j q=pIn b v (i+1) j q:=by
       unfold pIn
       by_cases h3:q.2.2.2.1=true
       ·simp [h3]
       ·have h3':q.2.2.2.1=false:=by simpa using h3
        by_cases hqn:q.2.2.1=(v:Int)
        ·have hne:nth (places (TBlock.Design b)) (v:Int) j≠i:=by
          intro hh
          have h4:=sinks_nth hq hqn h3'
          rw [hh] at h4
          have h5:(cat (sinkF (v:Int)) 0 (places (TBlock.Design b)))[i]?=some (k:Int):=hx
          rw [h5] at h4
          injection h4 with h4
          omega
         rw [show decide (nth (places (TBlock.Design b)) (v:Int) j<i)=decide (nth (places (TBlock.Design b)) (v:Int) j<i+1) from decide_eq_decide.2 (by omega)]
        ·rw [decide_eq_false hqn,Bool.false_and,Bool.false_and]
      rw [Option.map_some,Option.map_some,this]
   rw [this]
  ·simp only [spec_l08Nodes_loop0,Int.lt_irrefl,if_false,W_suc (show v≤1048576 by omega),e1]
 ·simp only [spec_l08Nodes_loop1,Int.lt_irrefl,if_false,last]
end Go.Proofs.YtpkjjgdhmafonaaGreatDoor
/-
  Plain laws: sinks put in anew, a place put on another net, a buffer taken away.
-/
namespace Go.Proofs.YtpkjjgdhmafonaaGreatDoor
set_option linter.unusedVariables false
set_option linter.unusedSimpArgs false
open Go Go.Sx
def wip (ws:List TWire) (k:Nat):List TWire:=cat (fun j w=>[if j<k then setSink w [] else w]) 0 ws
theorem wip_get (ws:List TWire) (k v:Nat):(wip ws k)[v]?=(ws[v]?).map (fun w=>if v<k then setSink w [] else w):=by
 unfold wip
 rw [cat_one_get,Nat.zero_add]
theorem wip_len (ws:List TWire) (k:Nat):(wip ws k).length=ws.length:=cat_one_length _ _
theorem wip_zero (ws:List TWire):wip ws 0=ws:=by
 apply List.ext_getElem?
 intro v
 rw [wip_get]
 simp
theorem wip_all (pl:List Pl) (ws:List TWire) (nd:Nat→Int):wip ws ws.length=wiredTo pl ws nd 0:=by
 apply List.ext_getElem?
 intro v
 unfold wiredTo
 rw [wip_get,wired_get]
 cases hv:ws[v]? with
 | none=>rfl
 | some w =>
  have:=(List.getElem?_eq_some_iff.1 hv).1
  simp only [Option.map_some,if_pos this,List.take_zero,cat,List.map_nil]
theorem wip_step {ws:List TWire} {k:Nat} {w:TWire} (hw:ws[k]?=some w):(wip ws k)[k]?=some w∧(wip ws k).set k (setSink w [])=wip ws (k+1):=by
 constructor
 ·rw [wip_get,hw];simp
 ·apply List.ext_getElem?
  intro v
  rw [List.getElem?_set,wip_len]
  split
  ·rename_i e
   subst e
   rw [if_pos (List.getElem?_eq_some_iff.1 hw).1,wip_get,hw,Option.map_some,if_pos (by omega)]
  ·rw [wip_get,wip_get]
   congr 1
   funext w'
   by_cases h:v<k
   ·rw [if_pos h,if_pos (by omega)]
   ·rw [if_neg h,if_neg (by omega)]
theorem impl_connect_eq {b:TBlock} {nodes:NodeMap} {nd:Nat→Int} (hf:Few (TBlock.Design b)) (hm:Maps nodes (places (TBlock.Design b)) nd) (hn:NetsIn (places (TBlock.Design b)) (TBlock.Wires b).length) (hw:(TBlock.Wires b).length≤1048576) :
  impl_Block_connect b nodes=some (TBlock.Library b,TBlock.Design b,wired (places (TBlock.Design b)) (TBlock.Wires b) nd,()):=by
 have hpl:=places_len hf
 unfold impl_Block_connect
 have:=loopThrough (l:=TBlock.Wires b) (fun k=>((k:Int),wip (TBlock.Wires b) k,())) (step:=fun v=>impl_Block_connect_loop1 b nodes v.1 v.2.1) (good:=(TBlock.Library b,TBlock.Design b,wired (places (TBlock.Design b)) (TBlock.Wires b) nd,())) (fun k w hk hlt=>by
  obtain ⟨a1,a2⟩:=wip_step hk
  simp only [impl_Block_connect_loop1,show (k:Int)<((TBlock.Wires b).length:Int) by omega,if_true,atI_nat,a1,Option.bind_some,W_suc (show k≤1048576 by omega),Int.toNat_natCast]
  rw [←a2]
  rfl) (by
  simp only [impl_Block_connect_loop1,Int.lt_irrefl,if_false,impl_Design_places_eq _ hf,Option.bind_some,wip_all (places (TBlock.Design b)) (TBlock.Wires b) nd]
  refine loopThrough (l:=places (TBlock.Design b)) (fun k=>((k:Int),wiredTo (places (TBlock.Design b)) (TBlock.Wires b) nd k,())) (fun k p hp hk=>?_) ?_
  ·simp only [impl_Block_connect_loop0,show (k:Int)<((places (TBlock.Design b)).length:Int) by omega,if_true,atI_nat,hp,Option.bind_some,W_suc (show k≤1048576 by omega)]
   have e1:Tplace.drives p=p.2.2.2.1:=rfl
   have e2:Tplace.net p=p.2.2.1:=rfl
   have e3:mget tpinKey (Ty.int IntKind.i64) nodes (Tplace.instance p,Tplace.pin p,())=mget Key (.int .i64) nodes (keyP p):=rfl
   by_cases h2:p.2.2.2.1=true
   ·rw [e1,if_pos h2,wiredTo_skip hp h2]
   ·have h2':p.2.2.2.1=false:=by simpa using h2
    obtain ⟨h0,h1⟩:=hn p (List.mem_of_getElem? hp) h2'
    have hwk:(TBlock.Wires b)[p.2.2.1.toNat]?=some ((TBlock.Wires b)[p.2.2.1.toNat]'(by omega)):=List.getElem?_eq_getElem (by omega)
    obtain ⟨w1,w2⟩:=wiredTo_step (nd:=nd) hp h2' h0 hwk
    have hl:=sinkF_len p.2.2.1 ((places (TBlock.Design b)).take k) 0
    rw [e1,if_neg h2,e2,atI_some h0 w1,Option.bind_some,e3,hm k p hp h2',guardO_pos (by
     show ((List.map _ _).length+1)*8≤_
     rw [List.length_map]
     rw [List.length_take] at hl
     omega),←w2]
    rfl
  ·simp only [impl_Block_connect_loop0,Int.lt_irrefl,if_false]
   unfold wiredTo
   rw [List.take_length])
 rw [wip_zero] at this
 exact this
theorem impl_setNet_eq {b:TBlock} {k:Nat} {p:Pl} (hp:(places (TBlock.Design b))[k]?=some p) (n:Int):impl_Block_setNet b (p.1,p.2.1,()) n=some (TBlock.Library b,conn (TBlock.Design b) p.1 p.2.1 n,TBlock.Wires b,()):=by
 unfold impl_Block_setNet conn
 rcases place_cases hp with ⟨i,j,x,m,hx,hn,e,rfl⟩ | ⟨j,q,hq,e,rfl⟩
 ·have c:¬((i:Int)<0):=by omega
  simp only [pinPl,TpinKey.instance,TpinKey.pin,if_neg c,atI_nat,hx,Option.bind_some,Int.toNat_natCast]
  have hn2:x.2.2.1[j]?=some m:=hn
  rw [hn2]
  rfl
 ·have c:((-1:Int)<0):=by omega
  simp only [TpinKey.instance,TpinKey.pin,if_pos c,atI_nat,hq,Option.bind_some,Int.toNat_natCast]
  rfl
theorem place_cut_mem {d:TDesign} (hn:0<(TDesign.Instances d).length) {p:Pl} (h:p∈places (cutInst d)):p∈places d:=by
 have hx:(TDesign.Instances d)[(TDesign.Instances d).length-1]?=some (TDesign.Instances d)[(TDesign.Instances d).length-1]:=List.getElem?_eq_getElem (by omega)
 rw [places_cut (s:=[]) hn hx,places_add]
 unfold places at h
 rcases List.mem_append.1 h with h | h
 ·exact List.mem_append_left _ (List.mem_append_left _ h)
 ·exact List.mem_append_right _ h
theorem LastOk.sink {b:TBlock} (h:BlkSm b) (hL:LastOk b):∃ (k:Nat) (p:Pl),sinks (TBlock.Design b) (((TDesign.Nets (TBlock.Design b)).length:Int)-1)=[(k:Int)]∧(places (TBlock.Design b))[k]?=some p∧p.2.2.1=((TDesign.Nets (TBlock.Design b)).length:Int)-1∧p.2.2.2.1=false∧p.1≠((TDesign.Instances (TBlock.Design b)).length:Int)-1:=by
 obtain ⟨x,c,w,m,hn,hx,hc,hk1,hk2,hl2,hm,hl,hne,hnm,hw,hs1,hs2,hp1,hc0⟩:=hL
 match hs:sinks (TBlock.Design b) (((TDesign.Nets (TBlock.Design b)).length:Int)-1),hs2 with
 | [v],_ =>
  obtain ⟨k,p,hp,e,h1,h2,_⟩:=sinks_at (pl:=places (TBlock.Design b)) (net:=((TDesign.Nets (TBlock.Design b)).length:Int)-1) (i:=0) (x:=v) (by
   show (sinks (TBlock.Design b) (((TDesign.Nets (TBlock.Design b)).length:Int)-1))[0]?=some v
   rw [hs];rfl)
  subst e
  refine ⟨k,p,rfl,hp,h1,h2,fun q=>?_⟩
  rcases place_cases hp with ⟨i,j,y,n,hy,hnj,_,rfl⟩ | ⟨j,y,_,_,rfl⟩
  ·simp only [pinPl] at q h1 h2
   have ei:i=(TDesign.Instances (TBlock.Design b)).length-1:=by omega
   rw [ei,hx] at hy
   injection hy with hy
   subst hy
   have hj:=(List.getElem?_eq_some_iff.1 hnj).1
   rw [hl2] at h2 hj
   have:j=0∨j=1:=by omega
   rcases this with rfl | rfl
   ·rw [show atI (TInstance.Nets x) 0=(TInstance.Nets x)[0]? from rfl,hnj] at hm
    injection hm with hm
    exact hne (hm.symm.trans h1)
   ·exact absurd h2 (by simp only [decide_eq_false_iff_not,Classical.not_not];rw [W_in (by omega) (by omega)];rfl)
  ·simp only at q
   omega
end Go.Proofs.YtpkjjgdhmafonaaGreatDoor
/-
  Plain laws: a buffer taken away; inverse edits.
-/
namespace Go.Proofs.YtpkjjgdhmafonaaGreatDoor
set_option linter.unusedVariables false
set_option linter.unusedSimpArgs false
open Go Go.Sx
theorem netsIn_un {b:TBlock} (h:BlkSm b) {k:Nat} {p:Pl} {m:Int} (hn:0<(TDesign.Instances (TBlock.Design b)).length) (hs:sinks (TBlock.Design b) (((TDesign.Nets (TBlock.Design b)).length:Int)-1)=[(k:Int)]) (hp:(places (TBlock.Design b))[k]?=some p) (h0:0≤m) (h1:m<((TDesign.Nets (TBlock.Design b)).length:Int)-1) :
  NetsIn (places (unD b p m)) ((TBlock.Wires b).length-1):=by
 have hwn:=h.ok.2.1
 have hD:NetsIn (places (conn (TBlock.Design b) p.1 p.2.1 m)) ((TBlock.Wires b).length-1):=by
  rw [places_conn hp]
  intro q hq hd
  obtain ⟨j,hj⟩:=List.getElem?_of_mem hq
  rw [List.getElem?_set] at hj
  split at hj
  ·split at hj
   ·injection hj with hj
    subst hj
    exact ⟨h0,by show m<_;omega⟩
   ·cases hj
  ·rename_i e
   have hnet:=place_net h.ok.1 (List.mem_of_getElem? hj)
   refine ⟨hnet.1,?_⟩
   by_cases hq2:q.2.2.1=((TDesign.Nets (TBlock.Design b)).length:Int)-1
   ·have h3:=sinks_nth hj hq2 hd
    have h4:(sinks (TBlock.Design b) (((TDesign.Nets (TBlock.Design b)).length:Int)-1))[nth (places (TBlock.Design b)) (((TDesign.Nets (TBlock.Design b)).length:Int)-1) j]?=some (j:Int):=h3
    rw [hs] at h4
    have h5:=List.mem_of_getElem? h4
    rw [List.mem_singleton] at h5
    exact absurd (by omega) e
   ·have:=hnet.2
    omega
 intro q hq hd
 exact hD q (place_cut_mem (by rw [conn_insts];exact hn) hq) hd
theorem impl_unbuffer_eq {b:TBlock} (h:BlkSm b) (hL:LastOk b):∃ (k:Nat) (p:Pl) (m v:Int),sinks (TBlock.Design b) (((TDesign.Nets (TBlock.Design b)).length:Int)-1)=[(k:Int)]∧(places (TBlock.Design b))[k]?=some p∧p.1≠((TDesign.Instances (TBlock.Design b)).length:Int)-1∧
  impl_Block_unbuffer b=some ((p.1,p.2.1,()),(TBlock.Library b,unD b p m,wired (places (unD b p m)) ((TBlock.Wires b).take ((TBlock.Wires b).length-1)) (ndCut (fun j=>if j=k then v else nodeOf b j) (insPl (unD b p m))),())):=by
 obtain ⟨k,p,hs,hp,hpn,hpd,hpi⟩:=hL.sink h
 obtain ⟨x,c,w,m,hn,hx,hc,hk1,hk2,hl2,hm,hl,hne,hnm,hw,hs1,hs2,hp1,hc0⟩:=hL
 have hD:=h.ok.1
 have hf:=hD.few
 have hpl:=places_len hf
 have h14:=hf.insts
 have h30:=hD.2.1.2.1
 have hwn:=h.ok.2.1
 obtain ⟨_,_,hnet⟩:=hD.2.2.1 x (List.mem_of_getElem? hx)
 have hm0:(TInstance.Nets x)[0]?=some m:=hm
 have hmn:=hnet m (List.mem_of_getElem? hm0)
 have hpos:1≤(TDesign.Nets (TBlock.Design b)).length:=by have:=hmn.1;have:=hmn.2;omega
 have hmn2:m<((TDesign.Nets (TBlock.Design b)).length:Int)-1:=by have:=hmn.2;omega
 have hx2:atI (TDesign.Instances (TBlock.Design b)) (((TDesign.Instances (TBlock.Design b)).length:Int)-1)=some x:=atI_some (by omega) (by rw [←hx];congr 1;omega)
 have t1:Int.toNat (((TDesign.Instances (TBlock.Design b)).length:Int)-1)=(TDesign.Instances (TBlock.Design b)).length-1:=by omega
 have t2:Int.toNat (((TDesign.Nets (TBlock.Design b)).length:Int)-1)=(TDesign.Nets (TBlock.Design b)).length-1:=by omega
 have t3:Int.toNat (((TBlock.Wires b).length:Int)-1)=(TBlock.Wires b).length-1:=by omega
 have e:((TBlock.Library b,(List.set (TDesign.Instances (TBlock.Design b)) ((TDesign.Instances (TBlock.Design b)).length-1) x,(TBlock.Design b).snd),b.snd.snd):TBlock)=b:=by rw [set_same hx]
 refine ⟨k,p,m,(Option.getD (mget Key (Ty.int IntKind.i64) (nodesTo (places (TBlock.Design b)) (nodeOf b) (places (TBlock.Design b)).length) ((((TDesign.Instances (TBlock.Design b)).length:Int)-1),(0:Int),())) (0:Int)),hs,hp,hpi,?_⟩
 unfold impl_Block_unbuffer
 rw [impl_nodesOf_eq h,Option.bind_some,impl_Design_places_eq _ hf,Option.bind_some,show impl_length_string (TDesign.Nets (TBlock.Design b))=some ((TDesign.Nets (TBlock.Design b)).length:Int) from rfl,Option.bind_some,
  W_in (n:=((TDesign.Nets (TBlock.Design b)).length:Int)-1) (by omega) (by omega),impl_Design_sinks_eq _ _ hf,Option.bind_some,hs,show atI [(k:Int)] 0=some (k:Int) from rfl,Option.bind_some,atI_nat,hp,Option.bind_some,
  W_in (n:=((TDesign.Instances (TBlock.Design b)).length:Int)-1) (by omega) (by omega),hx2,Option.bind_some,show x.snd.snd.fst=TInstance.Nets x from rfl,hm,Option.bind_some,t1,e,
  show (Tplace.instance p,Tplace.pin p,())=(p.1,p.2.1,()) from rfl,impl_setNet_eq hp m,Option.bind_some]
 have eD:TBlock.Design ((TBlock.Library b,conn (TBlock.Design b) p.1 p.2.1 m,TBlock.Wires b,()):TBlock)=conn (TBlock.Design b) p.1 p.2.1 m:=rfl
 have eW:TBlock.Wires ((TBlock.Library b,conn (TBlock.Design b) p.1 p.2.1 m,TBlock.Wires b,()):TBlock)=TBlock.Wires b:=rfl
 have eL:TBlock.Library ((TBlock.Library b,conn (TBlock.Design b) p.1 p.2.1 m,TBlock.Wires b,()):TBlock)=TBlock.Library b:=rfl
 rw [eD,eW,eL,conn_nets,W_in (n:=((TDesign.Nets (TBlock.Design b)).length:Int)-1) (by omega) (by omega),W_in (n:=((TBlock.Wires b).length:Int)-1) (by omega) (by omega),t2,t3,
  guardO_pos (by omega),guardO_pos (by rw [conn_insts];omega),guardO_pos (by omega),guardO_pos (by omega),guardO_pos (by omega),guardO_pos (by omega)]
 simp only [Int.toNat_zero,Nat.sub_zero,List.drop_zero]
 have hB:((TBlock.Library b,(List.take ((TDesign.Instances (TBlock.Design b)).length-1) (TDesign.Instances (conn (TBlock.Design b) p.1 p.2.1 m)),List.take ((TDesign.Nets (TBlock.Design b)).length-1) (TDesign.Nets (TBlock.Design b)),(conn (TBlock.Design b) p.1 p.2.1 m).snd.snd),List.take ((TBlock.Wires b).length-1) (TBlock.Wires b),()):TBlock)
   = (TBlock.Library b,unD b p m,List.take ((TBlock.Wires b).length-1) (TBlock.Wires b),()):=by
  unfold unD cutInst
  rw [conn_insts,conn_nets]
 rw [hB]
 have hx3:(TDesign.Instances (conn (TBlock.Design b) p.1 p.2.1 m))[(TDesign.Instances (conn (TBlock.Design b) p.1 p.2.1 m)).length-1]?=some ((TDesign.Instances (conn (TBlock.Design b) p.1 p.2.1 m))[(TDesign.Instances (conn (TBlock.Design b) p.1 p.2.1 m)).length-1]'(by rw [conn_insts];omega)):=List.getElem?_eq_getElem _
 generalize (TDesign.Instances (conn (TBlock.Design b) p.1 p.2.1 m))[(TDesign.Instances (conn (TBlock.Design b) p.1 p.2.1 m)).length-1]'(by rw [conn_insts];omega)=x' at hx3
 have hx4:(TInstance.Nets x').length=2:=by
  obtain ⟨y,hy,_,_,hyl,_⟩:=conn_inst hx3
  rw [conn_insts,hx] at hy
  injection hy with hy
  rw [hyl,←hy,hl2]
 have hM:=(((nodes_maps (TBlock.Design b) (nodeOf b)).put hp (Option.getD (mget Key (Ty.int IntKind.i64) (nodesTo (places (TBlock.Design b)) (nodeOf b) (places (TBlock.Design b)).length) ((((TDesign.Instances (TBlock.Design b)).length:Int)-1),(0:Int),())) (0:Int))).set hp m)
 rw [←places_conn hp m] at hM
 have hM2:=hM.cut (by rw [conn_insts];omega) hx3 hx4
 have hlen:(List.take ((TBlock.Wires b).length-1) (TBlock.Wires b)).length=(TBlock.Wires b).length-1:=by rw [List.length_take];omega
 have:=impl_connect_eq (b:=(TBlock.Library b,unD b p m,List.take ((TBlock.Wires b).length-1) (TBlock.Wires b),())) (hf.conn p.1 p.2.1 m).cut hM2 (by
  show NetsIn (places (unD b p m)) (List.take ((TBlock.Wires b).length-1) (TBlock.Wires b)).length
  rw [hlen]
  exact netsIn_un h hn hs hp hmn.1 hmn2) (by
  show (List.take ((TBlock.Wires b).length-1) (TBlock.Wires b)).length≤_
  rw [hlen];omega)
 exact Eq.trans (congrArg (fun o=>Option.bind o fun connect0=>some ((p.1,p.2.1,()),connect0)) this) rfl
end Go.Proofs.YtpkjjgdhmafonaaGreatDoor
/-
  Plain laws: inverse edits; the law FnExactInverseEdit.
-/
namespace Go.Proofs.YtpkjjgdhmafonaaGreatDoor
set_option linter.unusedVariables false
set_option linter.unusedSimpArgs false
open Go Go.Sx
theorem findIx_fst {α:Type} {p:α→Bool} {l:List α} {k:Nat} {x:α} (hx:l[k]?=some x) (hp:p x=true) (hf:∀ (j:Nat) (y:α),j<k→l[j]?=some y→p y=false):findIx p l=(k:Int):=by
 have hk:=(List.getElem?_eq_some_iff.1 hx)
 have:l.findIdx? p=some k:=by
  rw [List.findIdx?_eq_some_iff_getElem]
  refine ⟨hk.1,by rw [hk.2];exact hp,fun j hj=>?_⟩
  have:=hf j (l[j]'(by have:=hk.1;omega)) hj (List.getElem?_eq_getElem _)
  simp [this]
 unfold findIx
 rw [this]
theorem impl_placeOf_eq (d:TDesign) (hf:Few d) {k:Nat} {p:Pl} (hp:(places d)[k]?=some p):impl_Design_placeOf d p.1 p.2.1=some (k:Int):=by
 have hpl:=places_len hf
 unfold impl_Design_placeOf
 rw [impl_Design_places_eq _ hf,Option.bind_some,slices_IndexFunc_Simpl_place_impl_place_at_impl_Design_placeOf_c1_eq (l:=places d) (f:=(p.1,p.2.1,())) (show (places d).length≤_ by omega) (fun q=>decide (q.1=p.1)&&decide (q.2.1=p.2.1)) (fun q _=>by
  unfold impl_Design_placeOf_c1
  show (if q.1=p.1 then some (decide (q.2.1=p.2.1)) else some false)=_
  by_cases h1:q.1=p.1
  ·rw [if_pos h1,decide_eq_true h1,Bool.true_and]
  ·rw [if_neg h1,decide_eq_false h1,Bool.false_and]),Option.bind_some]
 congr 1
 refine findIx_fst hp (by simp) (fun j y hj hy=>?_)
 cases hq:(decide (y.1=p.1)&&decide (y.2.1=p.2.1)) with
 | false=>rfl
 | true =>
  simp only [Bool.and_eq_true,decide_eq_true_eq] at hq
  have:=key_inj hy hp hq.1 hq.2
  omega
theorem place_un {b:TBlock} (hn:0<(TDesign.Instances (TBlock.Design b)).length) {x:TInstance} (hx:(TDesign.Instances (TBlock.Design b))[(TDesign.Instances (TBlock.Design b)).length-1]?=some x) (hl2:(TInstance.Nets x).length=2) {k:Nat} {p:Pl} {m:Int} (hp:(places (TBlock.Design b))[k]?=some p) (hpi:p.1≠((TDesign.Instances (TBlock.Design b)).length:Int)-1) :
  (p.1<0→2≤k)∧(places (unD b p m))[if p.1<0 then k-2 else k]?=some (p.1,p.2.1,m,p.2.2.2.1,()):=by
 have hD:(places (conn (TBlock.Design b) p.1 p.2.1 m))[k]?=some (p.1,p.2.1,m,p.2.2.2.1,()):=by
  rw [places_conn hp,List.getElem?_set_self (List.getElem?_eq_some_iff.1 hp).1]
 have hn2:0<(TDesign.Instances (conn (TBlock.Design b) p.1 p.2.1 m)).length:=by rw [conn_insts];exact hn
 have hx3:(TDesign.Instances (conn (TBlock.Design b) p.1 p.2.1 m))[(TDesign.Instances (conn (TBlock.Design b) p.1 p.2.1 m)).length-1]?=some ((TDesign.Instances (conn (TBlock.Design b) p.1 p.2.1 m))[(TDesign.Instances (conn (TBlock.Design b) p.1 p.2.1 m)).length-1]'(by omega)):=List.getElem?_eq_getElem _
 generalize (TDesign.Instances (conn (TBlock.Design b) p.1 p.2.1 m))[(TDesign.Instances (conn (TBlock.Design b) p.1 p.2.1 m)).length-1]'(by omega)=x' at hx3
 have hx4:(TInstance.Nets x').length=2:=by
  obtain ⟨y,hy,_,_,hyl,_⟩:=conn_inst hx3
  rw [conn_insts,hx] at hy
  injection hy with hy
  rw [hyl,←hy,hl2]
 have hin:=cut_add hn2 hx3
 have hil:insPl (conn (TBlock.Design b) p.1 p.2.1 m)=insPl (unD b p m)+2:=by
  unfold insPl unD
  rw [hin,cat_append,List.length_append]
  simp only [cat,List.append_nil,instPl_length,hx4]
 rcases place_cases hD with ⟨i,j,y,n,hy,hnj,e,hq⟩ | ⟨j,q,hq,e,hq2⟩
 ·have e1:p.1=(i:Int):=by
   have:=congrArg Prod.fst hq
   simpa [pinPl] using this
  have hi:=(List.getElem?_eq_some_iff.1 hy).1
  rw [conn_insts] at hi
  refine ⟨fun h=>by omega,?_⟩
  rw [if_neg (by omega)]
  have hy2:(TDesign.Instances (unD b p m))[i]?=some y:=by
   show ((TDesign.Instances (conn (TBlock.Design b) p.1 p.2.1 m)).take _)[i]?=some y
   rw [List.getElem?_take,if_pos (by rw [conn_insts];omega),hy]
  have h5:=pin_at_place hy2 hnj
  have e2:fstPl (unD b p m) i=fstPl (conn (TBlock.Design b) p.1 p.2.1 m) i:=by
   unfold fstPl
   show (cat instPl 0 (((TDesign.Instances (conn (TBlock.Design b) p.1 p.2.1 m)).take _).take i)).length=_
   rw [List.take_take,Nat.min_eq_left (by rw [conn_insts];omega)]
  rw [e2,←e] at h5
  rw [h5,hq]
 ·have e1:p.1=-1:=congrArg Prod.fst hq2
  refine ⟨fun _=>by omega,?_⟩
  rw [if_pos (by omega)]
  have h5:=add_hi (d:=unD b p m) (x:=x') (s:=[]) (k:=k-2) (by omega)
  rw [hx4,show k-2+2=k by omega] at h5
  rw [←h5]
  unfold unD
  rw [←places_cut hn2 hx3]
  exact hD
theorem sm_nil:sm (.sl (.int .i64)) ([]:List Int):=smInts [] (by simp)
theorem sm_noWire:sm tWire (([]:List Int),([]:List Int),([]:List Int),([]:List Int),()):=⟨sm_nil,sm_nil,sm_nil,sm_nil,trivial⟩
theorem sm_noName:sm .str ([]:List UInt8):=by show ((0:Nat):Int)≤_;omega
theorem sm_edit {a b c d e:Int} {s:List UInt8} {w:TWire} (hs:sm .str s) (hw:sm tWire w):sm tEdit (a,b,c,d,e,s,w,()):=⟨trivial,trivial,trivial,trivial,trivial,hs,hw,trivial⟩
theorem inverse_eq {b:TBlock} {e:TEdit} (h:CanDo b e):∃ r,impl_Edit_inverse e b=some r∧spec_l08Inverse b e=some r∧sm tEdit r:=by
 have hB:=h.blk
 have hf:=hB.ok.1.few
 have hpl:=places_len hf
 have h30:=hB.ok.1.2.1.2.1
 have hwn:=hB.ok.2.1
 obtain ⟨b1,b2,b3⟩:=smBlock hB.sm
 unfold impl_Edit_inverse spec_l08Inverse
 rw [spec_l05Places_eq _ hf,Option.bind_some]
 by_cases k1:TEdit.Kind e=1
 ·obtain ⟨p,x,c,c2,hp,h0,_,hx,_⟩:=h.poss.1 k1
  rw [if_pos k1,if_pos k1,impl_Design_places_eq _ hf,Option.bind_some,hp.at,Option.bind_some]
  have e1:Tplace.instance p=p.1:=rfl
  have e2:Tl05Place.instance p=p.1:=rfl
  simp only [e1,e2,hx,Option.bind_some]
  exact ⟨_,rfl,rfl,sm_edit sm_noName sm_noWire⟩
 rw [if_neg k1,if_neg k1]
 by_cases k2:TEdit.Kind e=2
 ·rw [if_pos k2,if_pos k2]
  exact ⟨_,rfl,rfl,sm_edit sm_noName sm_noWire⟩
 rw [if_neg k2,if_neg k2]
 by_cases k3:TEdit.Kind e=3
 ·rw [if_pos k3,if_pos k3]
  have hL:=h.poss.2.2.1 k3
  obtain ⟨hn,x,hx,hl2⟩:=hL.two
  obtain ⟨k,p,m,v,hs,hp,hpi,hun⟩:=impl_unbuffer_eq hB hL
  have h14:=hf.insts
  have hx2:atI (TDesign.Instances (TBlock.Design b)) (((TDesign.Instances (TBlock.Design b)).length:Int)-1)=some x:=atI_some (by omega) (by rw [←hx];congr 1;omega)
  obtain ⟨hk2,hpu⟩:=place_un (m:=m) hn hx hl2 hp hpi
  have hk:=(List.getElem?_eq_some_iff.1 hp).1
  have hpo:=impl_placeOf_eq (unD b p m) (hf.conn p.1 p.2.1 m).cut hpu
  have hsx:sm tInstance x:=sm_get (smDesign b2).1 hx
  rw [impl_Block_clone_eq _ hB.sm,Option.bind_some,hun,Option.bind_some,W_in (n:=((TDesign.Instances (TBlock.Design b)).length:Int)-1) (by omega) (by omega),hx2,Option.bind_some,Option.bind_some,
   W_in (n:=((TBlock.Wires b).length:Int)-1) (by omega) (by omega),hwn,spec_l05Sinks_eq _ _ hf,Option.bind_some,hs,show atI [(k:Int)] 0=some (k:Int) from rfl,Option.bind_some,atI_nat,hp,Option.bind_some]
  have hpo2:impl_Design_placeOf (TBlock.Design ((TBlock.Library b,unD b p m,wired (places (unD b p m)) ((TBlock.Wires b).take ((TBlock.Wires b).length-1)) (ndCut (fun j=>if j=k then v else nodeOf b j) (insPl (unD b p m))),()):TBlock)) p.1 p.2.1=some (((if p.1<0 then k-2 else k:Nat):Nat):Int):=hpo
  rw [show Tl05Place.instance p=p.1 from rfl]
  refine ⟨(2,(((if p.1<0 then k-2 else k:Nat):Nat):Int),TInstance.Cell x,0,0,TInstance.Name x,([],[],[],[],()),()),?_,?_,sm_edit (smInst hsx).1 sm_noWire⟩
  ·exact congrArg (fun o=>Option.bind o _) hpo2
  ·by_cases q:p.1<0
   ·have:=hk2 q
    have t:((k-2:Nat):Int)=(k:Int)-2:=by omega
    rw [if_pos q,if_pos q,W_in (by omega) (by omega),t]
   ·rw [if_neg q,if_neg q]
 rw [if_neg k3,if_neg k3]
 by_cases k4:TEdit.Kind e=4
 ·obtain ⟨p,hp,h2,_⟩:=h.poss.2.2.2.1 k4
  have hk:=(List.getElem?_eq_some_iff.1 hp.2).1
  have hm:=nodes_maps (TBlock.Design b) (nodeOf b) (TEdit.Place e).toNat p hp.2 h2
  rw [if_pos k4,if_pos k4,impl_Design_places_eq _ hf,Option.bind_some,hp.at,Option.bind_some,impl_nodesOf_eq hB,Option.bind_some,Option.bind_some,spec_l08Nodes_eq hB,Option.bind_some,atI_some hp.1 (nodeL_get hk),Option.bind_some]
  rw [show mget tpinKey (Ty.int IntKind.i64) (nodesTo (places (TBlock.Design b)) (nodeOf b) (places (TBlock.Design b)).length) (Tplace.instance p,Tplace.pin p,())=some (nodeOf b (TEdit.Place e).toNat) from hm]
  exact ⟨_,rfl,rfl,sm_edit sm_noName sm_noWire⟩
 ·have k5:TEdit.Kind e=5:=by have:=h.blank;unfold Blank at this;omega
  obtain ⟨w,hw1,hw2,_⟩:=wire_at hB (h.range.2.2 k5)
  have hsw:sm tWire w:=sm_get b3 hw1
  rw [if_neg k4,if_neg k4,hw2,Option.bind_some,Option.bind_some,impl_Wire_clone_eq _ hsw,spec_ownWire_eq _ hsw]
  exact ⟨_,rfl,rfl,sm_edit sm_noName hsw⟩
theorem inverseEdit_eq (b:TBlock) (e:TEdit) (hb:sm tBlock b) (he:sm tEdit e):∃ r,impl_InverseEdit b e=some r∧spec_InverseEdit b e=some r∧sm tEdit r.1:=by
 obtain ⟨c,h1,h2,h3⟩:=editCode_eq b e hb he
 unfold impl_InverseEdit spec_InverseEdit
 rw [h1,h2,Option.bind_some,Option.bind_some]
 by_cases hc:c=0
 ·obtain ⟨r,r1,r2,r3⟩:=inverse_eq (h3 hc)
  rw [if_pos hc,if_pos hc,r1,r2]
  exact ⟨_,rfl,rfl,r3⟩
 ·rw [if_neg hc,if_neg hc]
  exact ⟨_,rfl,rfl,sm_edit sm_noName sm_noWire⟩
theorem cntT_edit (r:TEdit) (h:sm tEdit r):cntT tEdit r≤4194304:=by
 obtain ⟨a1,a2,a3,a4⟩:=smWire (smEdit h).2
 have s1:=small_of_sm a1
 have s2:=small_of_sm a2
 have s3:=small_of_sm a3
 have s4:=small_of_sm a4
 have e:cntT tEdit r=cnt (.sl (.int .i64)) (TWire.Parent (TEdit.Wire r))+(cnt (.sl (.int .i64)) (TWire.Res (TEdit.Wire r))+(cnt (.sl (.int .i64)) (TWire.Cap (TEdit.Wire r))+cnt (.sl (.int .i64)) (TWire.Sink (TEdit.Wire r)))):=by
  simp only [cntT,Nat.zero_add,Nat.add_zero]
 rw [e,cnt_ints,cnt_ints,cnt_ints,cnt_ints]
 omega
theorem laws_FnExactInverseEdit_ok (a0:TBlock) (a1:TEdit) (b0:bnd tBlock a0) (b1:bnd tEdit a1):laws_FnExactInverseEdit a0 a1=some true:=by
 unfold laws_FnExactInverseEdit
 obtain ⟨n,e,hle,hP⟩:=laws_szBlock_ok a0 1048576 (by omega) (by omega) b0
 rw [e,Option.bind_some]
 by_cases hn:n<0
 ·rw [if_pos hn]
 rw [if_neg hn]
 have hs:=hP (by omega)
 have ht:=laws_szBlock_tot a0 1048576 (by omega) (by omega) b0 n e (by omega)
 obtain ⟨n1,e1,hle1,hP1⟩:=laws_szEdit_ok a1 n (by omega) (by omega) b1
 rw [e1,Option.bind_some]
 by_cases hn1:n1<0
 ·rw [if_pos hn1]
 rw [if_neg hn1]
 have hs1:=hP1 (by omega)
 have ht1:=laws_szEdit_tot a1 n (by omega) (by omega) b1 n1 e1 (by omega)
 have hcb:=few_block a0 (by omega)
 have hce:=cntT_edit a1 hs1
 obtain ⟨r,c1,c2,c3⟩:=inverseEdit_eq a0 a1 hs hs1
 have hcr:=cntT_edit r.1 c3
 obtain ⟨m0,hm0⟩:=laws_markBlock_mk a0 1 hs (by omega) (by omega)
 have hm1:=laws_markEdit_eq a1 (1+((cnt tBlock a0:Nat):Int)) hs1 (by omega) (by omega)
 have hm3:=laws_markEdit_eq r.1 1 c3 (by omega) (by omega)
 have hm4:=laws_heldEdit_eq r.1 1 c3 (by omega) (by omega)
 have hm5:laws_heldEdit (r.1.1,r.1.2.1,r.1.2.2.1,r.1.2.2.2.1,r.1.2.2.2.2.1,r.1.2.2.2.2.2.1,(mkT mt tEdit r.1 1).2.2.2.2.2.2) 1=some (1+((cntT tEdit r.1:Nat):Int)):=hm4
 have hneg:¬(1+((cnt tBlock a0:Nat):Int)+((cntT tEdit a1:Nat):Int))<0:=by omega
 have hneg2:¬(1+((cntT tEdit r.1:Nat):Int))<0:=by omega
 simp only [laws_toBlock_ok _ hs,laws_toEdit_ok _ hs1,Option.bind_some,c1,c2,laws_eqEdit_ok _ c3,laws_eqBlock_ok _ hs,laws_eqEdit_ok _ hs1,if_true,hm0,hm1,hm3,hm5,hneg,hneg2,if_false]
end Go.Proofs.YtpkjjgdhmafonaaGreatDoor
