/-
  Plain laws: designs.
-/
import Derived.Test.YtpkjjgdhmafonaaGreatDoorLB
namespace Go.Proofs.YtpkjjgdhmafonaaGreatDoor
set_option linter.unusedVariables false
set_option linter.unusedSimpArgs false
open Go Go.Sx
theorem smDesign {d:TDesign} (h:sm tDesign d):sm (.sl tInstance) (TDesign.Instances d)∧sm (.sl tPort) (TDesign.Ports d)∧sm (.sl .str) (TDesign.Nets d):=by
 refine ⟨?_,?_,?_⟩
 ·first | exact h.1 | exact h.2.1 | exact h.2.2.1 | exact h.2.2.2.1
 ·first | exact h.1 | exact h.2.1 | exact h.2.2.1 | exact h.2.2.2.1
 ·first | exact h.1 | exact h.2.1 | exact h.2.2.1 | exact h.2.2.2.1
theorem smInst {x:TInstance} (h:sm tInstance x):sm .str (TInstance.Name x)∧sm (.sl (.int .i64)) (TInstance.Nets x):=by
 refine ⟨?_,?_⟩
 ·first | exact h.1 | exact h.2.1 | exact h.2.2.1 | exact h.2.2.2.1
 ·first | exact h.1 | exact h.2.1 | exact h.2.2.1 | exact h.2.2.2.1
theorem smPort {x:TPort} (h:sm tPort x):sm .str (TPort.Name x):=by
 first | exact h.1 | exact h.2.1 | exact h.2.2.1 | exact h.2.2.2.1
theorem impl_Design_hasNames_eq (d:TDesign) (h:sm tDesign d):impl_Design_hasNames d=some (tr (DNamesOk d)):=by
 obtain ⟨h1,h2,h3⟩:=smDesign h
 have s1:=small_of_sm h1
 have s2:=small_of_sm h2
 have s3:=small_of_sm h3
 unfold impl_Design_hasNames
 refine gather (l:=TDesign.Instances d) s1 TInstance.Name (fun k x o hx hk ho=>?_) ?_
 ·simp only [impl_Design_hasNames_loop1,hk,if_true,atI_nat,hx,Option.bind_some]
 simp only [impl_Design_hasNames_loop1,Int.lt_irrefl,if_false]
 have hi:(inames d).length=(TDesign.Instances d).length:=by simp [inames]
 have hp:(ponames d).length=(TDesign.Ports d).length:=by simp [ponames]
 refine gather (l:=TDesign.Ports d) s2 TPort.Name (fun k x o hx hk ho=>?_) ?_
 ·simp only [impl_Design_hasNames_loop0,hk,if_true,atI_nat,hx,Option.bind_some]
 simp only [impl_Design_hasNames_loop0,Int.lt_irrefl,if_false]
 rw [show List.map TPort.Name (TDesign.Ports d)=ponames d from rfl,show List.map TInstance.Name (TDesign.Instances d)=inames d from rfl]
 simp only [hi,hp,impl_areNames_eq _ (show (inames d).length≤4611686018427387904 by omega),impl_areNames_eq _ (show (ponames d).length≤4611686018427387904 by omega),impl_areNames_eq _ (show (TDesign.Nets d).length≤4611686018427387904 by omega),Option.bind_some]
 unfold DNamesOk
 rw [hi,hp]
 by_cases a:(TDesign.Instances d).length≤14
 ·rw [if_pos (by omega)]
  by_cases b:(TDesign.Nets d).length≤30
  ·rw [if_pos (by omega)]
   by_cases c:(TDesign.Ports d).length≤8
   ·rw [if_pos (by omega)]
    by_cases e:NamesOk (inames d) (TDesign.Instances d).length
    ·rw [if_pos (tr_pos e)]
     by_cases f:NamesOk (TDesign.Nets d) (TDesign.Nets d).length
     ·rw [if_pos (tr_pos f)]
      congr 3
      exact tr_congr ⟨fun q=>⟨a,b,c,e,f,q⟩,fun q=>q.2.2.2.2.2⟩
     ·rw [if_neg (by rw [tr_neg f];simp),tr_neg (fun q=>f q.2.2.2.2.1)]
    ·rw [if_neg (by rw [tr_neg e];simp),tr_neg (fun q=>e q.2.2.2.1)]
   ·rw [if_neg (by omega),tr_neg (fun q=>c q.2.2.1)]
  ·rw [if_neg (by omega),tr_neg (fun q=>b q.2.1)]
 ·rw [if_neg (by omega),tr_neg (fun q=>a q.1)]
def cnts (n:Nat) (s:List Int):List Int:=(List.range n).map (fun (j:Nat)=>((s.countP (fun x=>decide (x=(j:Int))):Nat):Int))
theorem cnts_len (n:Nat) (s:List Int):(cnts n s).length=n:=by simp [cnts]
theorem cnts_nil (n:Nat):cnts n []=List.replicate n 0:=by
 apply List.ext_getElem?
 intro i
 simp only [cnts,List.countP_nil,List.getElem?_map,List.getElem?_replicate,List.getElem?_range]
 by_cases h:i<n
 ·simp [h]
 ·simp [h]
theorem cnts_get {n:Nat} {s:List Int} {j:Nat} (h:j<n):(cnts n s)[j]?=some ((s.countP (fun x=>decide (x=(j:Int))):Nat):Int):=by
 simp [cnts,h]
theorem cnts_at {n:Nat} {s:List Int} {x:Int} (h0:0≤x) (h1:x<(n:Int)):atI (cnts n s) x=some ((s.countP (fun y=>decide (y=x)):Nat):Int):=by
 refine atI_some h0 ?_
 rw [cnts_get (by omega),show ((x.toNat:Nat):Int)=x by omega]
theorem cnts_set {n:Nat} {s:List Int} {x:Int} (h0:0≤x) (h1:x<(n:Int)):List.set (cnts n s) (Int.toNat x) (((s.countP (fun y=>decide (y=x)):Nat):Int)+1)=cnts n (s++[x]):=by
 apply List.ext_getElem?
 intro i
 rw [List.getElem?_set]
 by_cases hi:i<n
 ·rw [cnts_get hi,cnts_get hi,List.countP_append,cnts_len]
  by_cases e:x.toNat=i
  ·subst e
   rw [if_pos rfl,if_pos (by omega),show ((x.toNat:Nat):Int)=x by omega]
   simp
  ·rw [if_neg e]
   have:¬x=(i:Int):=by omega
   simp [List.countP_cons,this]
 ·have h1:(cnts n s)[i]?=none:=by rw [List.getElem?_eq_none];rw [cnts_len];omega
  have h2:(cnts n (s++[x]))[i]?=none:=by rw [List.getElem?_eq_none];rw [cnts_len];omega
  rw [h1,h2]
  split
  ·split
   ·rename_i h3;rw [cnts_len] at h3;omega
   ·rfl
  ·rfl
theorem cnts_step {n:Nat} {s:List Int} {x:Int} (h0:0≤x) (h1:x<(n:Int)) (hs:s.length≤1048576000) {τ:Type} (F:List Int→Option τ) :
  ((atI (cnts n s) x).bind fun y=>F (List.set (cnts n s) (Int.toNat x) (IntKind.i64.wrap (y+1))))=F (cnts n (s++[x])):=by
 have h2:=List.countP_le_length (p:=fun y=>decide (y=x)) (l:=s)
 rw [cnts_at h0 h1,Option.bind_some,W_in (by omega) (by omega),cnts_set h0 h1]
def lastNet (x:TInstance):Int:=(TInstance.Nets x).getLastD 0
def IsNet (d:TDesign) (n:Int):Prop:=0≤n∧n≤((TDesign.Nets d).length:Int)-1
def InstOk (a:TLibrary) (d:TDesign) (x:TInstance):Prop :=
 (0≤TInstance.Cell x∧TInstance.Cell x≤((TLibrary.Cells a).length:Int)-1)∧(∃ c,(TLibrary.Cells a)[(TInstance.Cell x).toNat]?=some c∧(TInstance.Nets x).length=(TCell.Pins c).length)∧∀ n∈TInstance.Nets x,IsNet d n
def PortOk (d:TDesign) (p:TPort):Prop:=(1≤TPort.Dir p∧TPort.Dir p≤2)∧IsNet d (TPort.Net p)
def drvs (d:TDesign):List Int:=(TDesign.Instances d).map lastNet++((TDesign.Ports d).filter (fun p=>decide (TPort.Dir p=1))).map TPort.Net
def OneDrv (d:TDesign):Prop:=∀ x∈cnts (TDesign.Nets d).length (drvs d),x=1
def DesignOk (a:TLibrary) (d:TDesign):Prop:=LibOk a∧DNamesOk d∧(∀ x∈TDesign.Instances d,InstOk a d x)∧(∀ p∈TDesign.Ports d,PortOk d p)∧OneDrv d
theorem InstOk.last {a:TLibrary} {d:TDesign} {x:TInstance} (h:InstOk a d x) (hl:LibOk a) (hsm:(TInstance.Nets x).length≤1048576):atI (TInstance.Nets x) (IntKind.i64.wrap (((TInstance.Nets x).length:Int)-1))=some (lastNet x)∧IsNet d (lastNet x):=by
 obtain ⟨_,⟨c,hc,hn⟩,hall⟩:=h
 have h2:2≤(TCell.Pins c).length:=(hl.2.1 c (List.mem_of_getElem? hc)).2.1.1
 unfold lastNet
 cases hN:TInstance.Nets x with
 | nil=>rw [hN] at hn;simp at hn;omega
 | cons y r =>
  rw [hN] at hsm
  rw [W_pred hsm (by simp),atI_nat]
  have e:(y::r)[(y::r).length-1]?=some ((y::r).getLastD 0):=by
   rw [←List.getLast?_eq_getElem?,List.getLastD_eq_getLast?,List.getLast?_cons];rfl
  exact ⟨e,hall _ (by rw [hN];exact List.mem_of_getElem? e)⟩
theorem impl_Design_isNet_eq (d:TDesign) (n:Int) (h:sm tDesign d):impl_Design_isNet d n=some (tr (IsNet d n)):=by
 have s3:=small_of_sm (smDesign h).2.2
 unfold impl_Design_isNet
 rw [show impl_length_string (TDesign.Nets d)=some ((TDesign.Nets d).length:Int) from rfl,Option.bind_some,W_in (by omega) (by omega)]
 exact bind_tr (within_tr _ _ _)
theorem impl_Design_isInstance_eq (d:TDesign) (a:TLibrary) (x:TInstance) (hd:sm tDesign d) (ha:sm tLibrary a) (hx:sm tInstance x):impl_Design_isInstance d a x=some (tr (InstOk a d x)):=by
 have sa:=small_of_sm (smLib ha)
 unfold impl_Design_isInstance
 rw [show impl_length_impl_Cell (TLibrary.Cells a)=some ((TLibrary.Cells a).length:Int) from rfl,Option.bind_some,W_in (by omega) (by omega)]
 refine eq_tr (P:=(0≤TInstance.Cell x∧TInstance.Cell x≤((TLibrary.Cells a).length:Int)-1)∧InstOk a d x) (bind_if (within_tr _ _ _) (fun hw=>?_)) ⟨fun q=>q.2,fun q=>⟨q.1,q⟩⟩
 obtain ⟨c,hc1,hc2⟩:=atI_ex hw.1 (show TInstance.Cell x<((TLibrary.Cells a).length:Int) by omega)
 rw [hc1,Option.bind_some]
 refine eq_tr (P:=((TInstance.Nets x).length:Int)=((TCell.Pins c).length:Int)∧∀ n∈TInstance.Nets x,IsNet d n) (and_ifP (fun he=>?_)) ?_
 ·rw [slices_ContainsFunc_Sint64_int64_at_impl_Design_isInstance_c1_eq (len_of_sm (smInst hx).2) (fun n=>!tr (IsNet d n)) (fun n _=>by
   unfold impl_Design_isInstance_c1
   show (impl_Design_isNet d n).bind _=_
   rw [impl_Design_isNet_eq d n hd];rfl),Option.bind_some]
  refine fin_tr ?_
  rw [Bool.not_eq_true',List.any_eq_false]
  constructor
  ·intro q n hn
   have:=q n hn
   simp only [Bool.not_eq_true',Bool.not_eq_false] at this
   exact (tr_iff _).1 this
  ·intro q n hn
   simp only [Bool.not_eq_true',Bool.not_eq_false]
   exact tr_pos (q n hn)
 ·constructor
  ·rintro ⟨q1,q2⟩;exact ⟨hw,⟨c,hc2,by omega⟩,q2⟩
  ·rintro ⟨_,⟨c',q1,q2⟩,q3⟩
   rw [hc2] at q1;injection q1 with q1;subst q1
   exact ⟨by omega,q3⟩
theorem drv_port {d:TDesign} {k:Nat} {p:TPort} (hx:(TDesign.Ports d)[k]?=some p) (s:List Int) :
  s++(((TDesign.Ports d).take (k+1)).filter (fun p=>decide (TPort.Dir p=1))).map TPort.Net=(if TPort.Dir p=1 then (s++(((TDesign.Ports d).take k).filter (fun p=>decide (TPort.Dir p=1))).map TPort.Net)++[TPort.Net p] else s++(((TDesign.Ports d).take k).filter (fun p=>decide (TPort.Dir p=1))).map TPort.Net):=by
 rw [take_snoc hx,List.filter_append,List.map_append]
 by_cases h:TPort.Dir p=1
 ·rw [if_pos h];simp [h]
 ·rw [if_neg h];simp [h]
theorem drv_len {d:TDesign} (k m:Nat):(((TDesign.Instances d).take m).map lastNet++(((TDesign.Ports d).take k).filter (fun p=>decide (TPort.Dir p=1))).map TPort.Net).length≤(TDesign.Instances d).length+(TDesign.Ports d).length:=by
 have h:=List.length_filter_le (fun p=>decide (TPort.Dir p=1)) ((TDesign.Ports d).take k)
 simp only [List.length_append,List.length_map,List.length_take] at h ⊢
 omega
theorem impl_IsDesign_eq (a:TLibrary) (d:TDesign) (ha:sm tLibrary a) (hd:sm tDesign d):impl_IsDesign a d=some (tr (DesignOk a d)):=by
 obtain ⟨h1,h2,h3⟩:=smDesign hd
 have s1:=small_of_sm h1
 have s2:=small_of_sm h2
 have s3:=small_of_sm h3
 unfold impl_IsDesign
 refine eq_tr (P:=LibOk a∧DNamesOk d∧(AllE (TDesign.Instances d) (fun _ x=>InstOk a d x)∧(AllE (TDesign.Ports d) (fun _ p=>PortOk d p)∧OneDrv d))) (bind_if (impl_IsLibrary_eq a ha) (fun hL=>bind_if (impl_Design_hasNames_eq d hd) (fun hN=>?_))) (by rw [AllE_mem,AllE_mem];exact Iff.rfl)
 rw [guardO_pos (by omega),guardO_pos (by omega),guardO_pos (by omega),guardO_pos (by omega)]
 have:=loopAllF (l:=TDesign.Instances d) (ρ:=Bool) (fun k=>((k:Int),cnts (TDesign.Nets d).length (((TDesign.Instances d).take k).map lastNet),())) (fun _ x=>InstOk a d x) (step:=fun v=>impl_IsDesign_loop1 a d v.1 v.2.1) (bad:=false) (good:=tr (AllE (TDesign.Ports d) (fun _ p=>PortOk d p)∧OneDrv d))
  (fun k x hx hk _=>by
   have hsx:=sm_get h1 hx
   simp only [impl_IsDesign_loop1,show (k:Int)<((TDesign.Instances d).length:Int) from by omega,if_true,atI_nat,hx,Option.bind_some,impl_Design_isInstance_eq d a x hd ha hsx]
   constructor
   ·intro hh
    obtain ⟨e1,e2⟩:=hh.last hL (small_of_sm (smInst hsx).2)
    rw [if_pos (tr_pos hh),e1,Option.bind_some,cnts_step e2.1 (by have:=e2.2;omega) (by simp only [List.length_map,List.length_take];omega) (F:=fun o=>some (Sum.inl (IntKind.i64.wrap ((k:Int)+1),o,()))),take_snoc hx,List.map_append,W_suc (by omega)]
    rfl
   ·intro hh;rw [if_neg (by rw [tr_neg hh];simp)])
  (fun hA=>by
   simp only [impl_IsDesign_loop1,Int.lt_irrefl,if_false,List.take_length]
   have:=loopAllF (l:=TDesign.Ports d) (ρ:=Int×List Int×Unit ⊕ Bool) (fun k=>((k:Int),cnts (TDesign.Nets d).length ((TDesign.Instances d).map lastNet++(((TDesign.Ports d).take k).filter (fun p=>decide (TPort.Dir p=1))).map TPort.Net),())) (fun _ p=>PortOk d p) (step:=fun v=>impl_IsDesign_loop0 d v.1 v.2.1) (bad:=.inr false) (good:=.inr (tr (OneDrv d)))
    (fun k p hx hk _=>by
     have hl:=drv_len (d:=d) k (TDesign.Instances d).length
     rw [List.take_length] at hl
     simp only [impl_IsDesign_loop0,show (k:Int)<((TDesign.Ports d).length:Int) from by omega,if_true,atI_nat,hx,Option.bind_some,impl_Design_isNet_eq d _ hd,drv_port hx]
     by_cases d1:TPort.Dir p=1
     ·simp only [d1,if_true]
      constructor
      ·intro hh
       rw [if_pos (tr_pos hh.2),cnts_step hh.2.1 (by have:=hh.2.2;omega) (by omega) (F:=fun o=>some (Sum.inl (IntKind.i64.wrap ((k:Int)+1),o,()))),W_suc (by omega)]
      ·intro hh
       rw [if_neg (by rw [tr_neg (fun q=>hh ⟨by omega,q⟩)];simp)]
     ·simp only [d1,if_false]
      by_cases d2:TPort.Dir p=2
      ·simp only [d2,if_true]
       constructor
       ·intro hh
        rw [if_pos (tr_pos hh.2),W_suc (by omega)]
       ·intro hh
        rw [if_neg (by rw [tr_neg (fun q=>hh ⟨by omega,q⟩)];simp)]
      ·simp only [d2,if_false]
       exact ⟨fun hh=>by have:=hh.1;omega,fun _=>trivial⟩)
    (fun _=>by
     simp only [impl_IsDesign_loop0,Int.lt_irrefl,if_false,List.take_length]
     rw [slices_ContainsFunc_Sint_int_at_impl_IsDesign_c1_eq (show Len _ by show List.length _≤_;rw [cnts_len];omega) (fun n=>!decide (n=1)) (fun n _=>rfl),Option.bind_some]
     congr 3
     refine (tr_eq ?_).symm
     rw [Bool.not_eq_true',List.any_eq_false]
     simp only [Bool.not_eq_true',Bool.not_eq_false,decide_eq_true_eq,decide_eq_false_iff_not,Classical.not_not]
     exact Iff.rfl)
   refine (show whileM (fun v=>impl_IsDesign_loop0 d v.1 v.2.1) ((0:Int),cnts (TDesign.Nets d).length ((TDesign.Instances d).map lastNet),())=_ from (by simpa using this)).trans ?_
   by_cases hP:AllE (TDesign.Ports d) (fun _ p=>PortOk d p)
   ·rw [sel_pos hP];congr 2;exact tr_congr ⟨fun q=>⟨hP,q⟩,fun q=>q.2⟩
   ·rw [sel_neg hP,tr_neg (fun q=>hP q.1)])
 rw [sel_then] at this
 refine Eq.trans ?_ this
 rw [List.take_zero,List.map_nil,cnts_nil]
 rfl
end Go.Proofs.YtpkjjgdhmafonaaGreatDoor
/-
  Plain laws: designs by the reference; places.
-/
namespace Go.Proofs.YtpkjjgdhmafonaaGreatDoor
set_option linter.unusedVariables false
set_option linter.unusedSimpArgs false
open Go Go.Sx
theorem spec_l05Parts_eq (a:TLibrary) (d:TDesign) (ha:sm tLibrary a) (hd:sm tDesign d):spec_l05Parts a d=some (tr (AllE (TDesign.Instances d) (fun _ x=>InstOk a d x)∧AllE (TDesign.Ports d) (fun _ p=>PortOk d p))):=by
 obtain ⟨h1,h2,h3⟩:=smDesign hd
 have s1:=small_of_sm h1
 have s2:=small_of_sm h2
 have s3:=small_of_sm h3
 have sa:=small_of_sm (smLib ha)
 have e1:IntKind.i64.wrap (((TDesign.Nets d).length:Int)-1)=((TDesign.Nets d).length:Int)-1:=W_in (by omega) (by omega)
 have e2:IntKind.i64.wrap (((TLibrary.Cells a).length:Int)-1)=((TLibrary.Cells a).length:Int)-1:=W_in (by omega) (by omega)
 unfold spec_l05Parts
 rw [loopAll (len_of_sm h1) (fun _ x=>InstOk a d x) (bad:=false) (good:=tr (AllE (TDesign.Ports d) (fun _ p=>PortOk d p)))
  (fun k x hx hk _=>by
   have hsx:=sm_get h1 hx
   simp only [spec_l05Parts_loop2,show (k:Int)<((TDesign.Instances d).length:Int) from by omega,if_true,atI_nat,hx,Option.bind_some,l01In_tr,e2]
   by_cases hc:0≤TInstance.Cell x∧TInstance.Cell x≤((TLibrary.Cells a).length:Int)-1
   ·obtain ⟨c,hc1,hc2⟩:=atI_ex hc.1 (show TInstance.Cell x<((TLibrary.Cells a).length:Int) by omega)
    rw [if_pos (tr_pos hc),hc1,Option.bind_some]
    by_cases hp:((TInstance.Nets x).length:Int)=((TCell.Pins c).length:Int)
    ·rw [if_pos hp,loopAll (len_of_sm (smInst hsx).2) (fun _ n=>IsNet d n) (bad:=.inr false) (good:=.inl (IntKind.i64.wrap ((k:Int)+1),()))
      (fun j n hn hj _=>by
       simp only [spec_l05Parts_loop0,show (j:Int)<((TInstance.Nets x).length:Int) from by omega,if_true,atI_nat,hn,Option.bind_some,l01In_tr,e1]
       constructor
       ·intro hh;exact if_pos (tr_pos hh)
       ·intro hh;exact if_neg (fun q=>hh ((tr_iff _).1 q)))
      (fun _=>by simp only [spec_l05Parts_loop0,Int.lt_irrefl,if_false])]
     constructor
     ·intro hh;rw [sel_pos (AllE_mem.2 hh.2.2)]
     ·intro hh;rw [sel_neg (fun q=>hh ⟨hc,⟨c,hc2,by omega⟩,AllE_mem.1 q⟩)]
    ·rw [if_neg hp]
     refine ⟨fun hh=>?_,fun _=>rfl⟩
     obtain ⟨_,⟨c',q1,q2⟩,_⟩:=hh
     rw [hc2] at q1;injection q1 with q1;subst q1
     exact absurd (by omega) hp
   ·rw [if_neg (by rw [tr_neg hc];simp)]
    exact ⟨fun hh=>absurd hh.1 hc,fun _=>rfl⟩)
  (fun _=>by
   simp only [spec_l05Parts_loop2,Int.lt_irrefl,if_false]
   rw [loopAll (len_of_sm h2) (fun _ p=>PortOk d p) (bad:=.inr false) (good:=.inr true)
    (fun k p hx hk _=>by
     simp only [spec_l05Parts_loop1,show (k:Int)<((TDesign.Ports d).length:Int) from by omega,if_true,atI_nat,hx,Option.bind_some,l01In_tr,e1]
     by_cases hc:1≤TPort.Dir p∧TPort.Dir p≤2
     ·rw [if_pos (tr_pos hc)]
      constructor
      ·intro hh;exact if_pos (tr_pos hh.2)
      ·intro hh;exact if_neg (fun q=>hh ⟨hc,(tr_iff _).1 q⟩)
     ·rw [if_neg (by rw [tr_neg hc];simp)]
      exact ⟨fun hh=>absurd hh.1 hc,fun _=>rfl⟩)
    (fun _=>by simp only [spec_l05Parts_loop1,Int.lt_irrefl,if_false])]
   congr 1
   by_cases hh:AllE (TDesign.Ports d) (fun _ p=>PortOk d p)
   ·rw [sel_pos hh,tr_pos hh]
   ·rw [sel_neg hh,tr_neg hh])]
 rw [sel_then]
theorem names_sm {α:Type} {l:List α} {f:α→List UInt8} (h:∀ x∈l,(f x).length≤4611686018427387904):∀ s∈l.map f,s.length≤4611686018427387904:=by
 intro s hs
 obtain ⟨x,hx,rfl⟩:=List.mem_map.1 hs
 exact h x hx
theorem spec_IsDesign_eq (a:TLibrary) (d:TDesign) (ha:sm tLibrary a) (hd:sm tDesign d):spec_IsDesign a d=some (tr (DesignOk a d)):=by
 obtain ⟨h1,h2,h3⟩:=smDesign hd
 have s1:=small_of_sm h1
 have s2:=small_of_sm h2
 have s3:=small_of_sm h3
 unfold spec_IsDesign
 refine eq_tr (bind_if (spec_IsLibrary_eq a ha) (fun hL=>and_ifN (fun a1=>and_ifN (fun a2=>and_ifN (fun a3=>bind_if (spec_l05Parts_eq a d ha hd) (fun hP=>?_))))))
  (P:=LibOk a∧¬(14:Int)<((TDesign.Instances d).length:Int)∧¬(30:Int)<((TDesign.Nets d).length:Int)∧¬(8:Int)<((TDesign.Ports d).length:Int)∧(AllE (TDesign.Instances d) (fun _ x=>InstOk a d x)∧AllE (TDesign.Ports d) (fun _ p=>PortOk d p))∧(NamesOk (inames d) (inames d).length∧NamesOk (ponames d) (ponames d).length∧NamesOk (TDesign.Nets d) (TDesign.Nets d).length)∧OneDrv d) ?_
 ·have hi:(inames d).length=(TDesign.Instances d).length:=by simp [inames]
  have hp:(ponames d).length=(TDesign.Ports d).length:=by simp [ponames]
  refine gather (l:=TDesign.Instances d) s1 TInstance.Name (fun k x o hx hk ho=>?_) ?_
  ·simp only [spec_IsDesign_loop4,hk,if_true,atI_nat,hx,Option.bind_some]
  simp only [spec_IsDesign_loop4,Int.lt_irrefl,if_false]
  refine gather (l:=TDesign.Ports d) s2 TPort.Name (fun k x o hx hk ho=>?_) ?_
  ·simp only [spec_IsDesign_loop3,hk,if_true,atI_nat,hx,Option.bind_some]
  simp only [spec_IsDesign_loop3,Int.lt_irrefl,if_false]
  rw [show List.map TPort.Name (TDesign.Ports d)=ponames d from rfl,show List.map TInstance.Name (TDesign.Instances d)=inames d from rfl]
  simp only [spec_l05Names_eq (inames d) (by omega) (names_sm (fun x hx=>str_of_sm (smInst (sm_mem h1 hx)).1)),spec_l05Names_eq (ponames d) (by omega) (names_sm (fun x hx=>str_of_sm (smPort (sm_mem h2 hx)))),spec_l05Names_eq (TDesign.Nets d) (by omega) (fun s hs=>str_of_sm (sm_mem h3 hs)),Option.bind_some]
  by_cases n1:NamesOk (inames d) (inames d).length
  ·rw [if_pos (tr_pos n1)]
   by_cases n2:NamesOk (ponames d) (ponames d).length
   ·rw [if_pos (tr_pos n2)]
    by_cases n3:NamesOk (TDesign.Nets d) (TDesign.Nets d).length
    ·rw [if_pos (tr_pos n3),guardO_pos (by omega),guardO_pos (by omega),guardO_pos (by omega),guardO_pos (by omega)]
     have:=loopThrough (l:=TDesign.Instances d) (ρ:=(List (List UInt8))×Int×Unit ⊕ ((List (List UInt8))×Int×Unit ⊕ Bool)) (fun k=>((k:Int),cnts (TDesign.Nets d).length (((TDesign.Instances d).take k).map lastNet),())) (step:=fun v=>spec_IsDesign_loop2 d v.1 v.2.1) (good:=.inr (.inr (tr (OneDrv d))))
      (fun k x hx hk=>by
       have hsx:=sm_get h1 hx
       obtain ⟨e1,e2⟩:=(hP.1 k x hx).last hL (small_of_sm (smInst hsx).2)
       simp only [spec_IsDesign_loop2,show (k:Int)<((TDesign.Instances d).length:Int) from by omega,if_true,atI_nat,hx,Option.bind_some]
       rw [e1,Option.bind_some,cnts_step e2.1 (by have:=e2.2;omega) (by simp only [List.length_map,List.length_take];omega) (F:=fun o=>some (Sum.inl (IntKind.i64.wrap ((k:Int)+1),o,()))),take_snoc hx,List.map_append,W_suc (by omega)]
       rfl)
      (by
       simp only [spec_IsDesign_loop2,Int.lt_irrefl,if_false,List.take_length]
       have:=loopThrough (l:=TDesign.Ports d) (ρ:=Int×List Int×Unit ⊕ ((List (List UInt8))×Int×Unit ⊕ ((List (List UInt8))×Int×Unit ⊕ Bool))) (fun k=>((k:Int),cnts (TDesign.Nets d).length ((TDesign.Instances d).map lastNet++(((TDesign.Ports d).take k).filter (fun p=>decide (TPort.Dir p=1))).map TPort.Net),())) (step:=fun v=>spec_IsDesign_loop1 d v.1 v.2.1) (good:=.inr (.inr (.inr (tr (OneDrv d)))))
        (fun k p hx hk=>by
         have hl:=drv_len (d:=d) k (TDesign.Instances d).length
         rw [List.take_length] at hl
         have hpo:=hP.2 k p hx
         simp only [spec_IsDesign_loop1,show (k:Int)<((TDesign.Ports d).length:Int) from by omega,if_true,atI_nat,hx,Option.bind_some,drv_port hx]
         by_cases d1:TPort.Dir p=1
         ·simp only [d1,if_true]
          rw [cnts_step hpo.2.1 (by have:=hpo.2.2;omega) (by omega) (F:=fun o=>some (Sum.inl (IntKind.i64.wrap ((k:Int)+1),o,()))),W_suc (by omega)]
         ·simp only [d1,if_false]
          rw [W_suc (by omega)])
        (by
         simp only [spec_IsDesign_loop1,Int.lt_irrefl,if_false,List.take_length]
         rw [loopAll (l:=cnts (TDesign.Nets d).length ((TDesign.Instances d).map lastNet++((TDesign.Ports d).filter (fun p=>decide (TPort.Dir p=1))).map TPort.Net)) (show List.length _≤_ by rw [cnts_len];omega) (fun _ x=>x=1) (bad:=.inr (.inr (.inr (.inr false)))) (good:=.inr (.inr (.inr (.inr true))))
          (fun k x hx hk _=>by
           simp only [spec_IsDesign_loop0,show (k:Int)<((cnts (TDesign.Nets d).length ((TDesign.Instances d).map lastNet++((TDesign.Ports d).filter (fun p=>decide (TPort.Dir p=1))).map TPort.Net)).length:Int) from by omega,if_true,atI_nat,hx,Option.bind_some]
           constructor
           ·intro hh;rw [if_pos hh]
           ·intro hh;rw [if_neg hh])
          (fun _=>by simp only [spec_IsDesign_loop0,Int.lt_irrefl,if_false])]
         congr 1
         have e:AllE (cnts (TDesign.Nets d).length ((TDesign.Instances d).map lastNet++((TDesign.Ports d).filter (fun p=>decide (TPort.Dir p=1))).map TPort.Net)) (fun _ x=>x=1)↔OneDrv d:=by
          rw [AllE_mem];exact Iff.rfl
         by_cases hh:OneDrv d
         ·rw [sel_pos (e.2 hh),tr_pos hh]
         ·rw [sel_neg (fun q=>hh (e.1 q)),tr_neg hh])
       refine (show whileM (fun v=>spec_IsDesign_loop1 d v.1 v.2.1) ((0:Int),cnts (TDesign.Nets d).length ((TDesign.Instances d).map lastNet),())=_ from (by simpa using this)).trans ?_
       rfl)
     rw [List.take_zero,List.map_nil,cnts_nil] at this
     refine (show whileM (fun v=>spec_IsDesign_loop2 d v.1 v.2.1) ((0:Int),List.replicate (TDesign.Nets d).length 0,())=_ from this).trans ?_
     congr 3
     exact tr_congr ⟨fun q=>⟨⟨n1,n2,n3⟩,q⟩,fun q=>q.2⟩
    ·rw [if_neg (by rw [tr_neg n3];simp),tr_neg (fun q=>n3 q.1.2.2)]
   ·rw [if_neg (by rw [tr_neg n2];simp),tr_neg (fun q=>n2 q.1.2.1)]
  ·rw [if_neg (by rw [tr_neg n1];simp),tr_neg (fun q=>n1 q.1.1)]
 ·unfold DesignOk DNamesOk
  rw [AllE_mem,AllE_mem]
  constructor
  ·rintro ⟨q1,q2,q3,q4,⟨q5,q6⟩,⟨q7,q8,q9⟩,q10⟩
   exact ⟨q1,⟨by omega,by omega,by omega,q7,q9,q8⟩,q5,q6,q10⟩
  ·rintro ⟨q1,⟨q2,q3,q4,q7,q9,q8⟩,q5,q6,q10⟩
   exact ⟨q1,by omega,by omega,by omega,⟨q5,q6⟩,⟨q7,q8,q9⟩,q10⟩
end Go.Proofs.YtpkjjgdhmafonaaGreatDoor
/-
  Plain laws: places, sinks, wires.
-/
namespace Go.Proofs.YtpkjjgdhmafonaaGreatDoor
set_option linter.unusedVariables false
set_option linter.unusedSimpArgs false
open Go Go.Sx
def cat {α β:Type} (f:Nat→α→List β):Nat→List α→List β
 | _,[]=>[]
 | k,x::r=>f k x++cat f (k+1) r
theorem cat_append {α β:Type} (f:Nat→α→List β):∀ (l r:List α) (m:Nat),cat f m (l++r)=cat f m l++cat f (m+l.length) r
 | [],r,m=>by simp [cat]
 | x::l,r,m=>by
  simp only [List.cons_append,cat,List.length_cons,cat_append f l r,List.append_assoc]
  rw [show m+1+l.length=m+(l.length+1) by omega]
theorem cat_snoc {α β:Type} {f:Nat→α→List β} {l:List α} {k:Nat} {x:α} (hx:l[k]?=some x):cat f 0 (l.take (k+1))=cat f 0 (l.take k)++f k x:=by
 have hk:=(List.getElem?_eq_some_iff.1 hx).1
 rw [take_snoc hx,cat_append]
 simp only [cat,Nat.zero_add,List.length_take,List.append_nil]
 rw [show min k l.length=k by omega]
theorem mem_cat {α β:Type} {f:Nat→α→List β} {y:β}:∀ {l:List α} {m:Nat},y∈cat f m l↔∃ (k:Nat) (x:α),l[k]?=some x∧y∈f (m+k) x
 | [],m=>by simp [cat]
 | z::r,m=>by
  simp only [cat,List.mem_append,mem_cat (l:=r)]
  constructor
  ·rintro (h | ⟨k,x,h1,h2⟩)
   ·exact ⟨0,z,rfl,h⟩
   ·exact ⟨k+1,x,by simpa using h1,by rw [show m+(k+1)=m+1+k by omega];exact h2⟩
  ·rintro ⟨k,x,h1,h2⟩
   cases k with
   | zero=>simp at h1;subst h1;exact .inl h2
   | succ k=>exact .inr ⟨k,x,by simpa using h1,by rw [show m+1+k=m+(k+1) by omega];exact h2⟩
theorem cat_len {α β:Type} {f:Nat→α→List β} {c:Nat}:∀ {l:List α} {m:Nat},(∀ k,∀ x∈l,(f k x).length≤c)→(cat f m l).length≤c*l.length
 | [],m,_=>by simp [cat]
 | z::r,m,h=>by
  simp only [cat,List.length_append,List.length_cons]
  have h1:=h m z (by simp)
  have h2:=cat_len (f:=f) (l:=r) (m:=m+1) (fun k x hx=>h k x (by simp [hx]))
  rw [Nat.mul_add];omega
theorem appendLoop {α β ρ:Type} {l:List α} (f:Nat→α→List β) (acc:List β) {step:List β×Int×Unit→Option ((List β×Int×Unit) ⊕ ρ)} {good:ρ}
  (hs:∀ (k:Nat) (x:α),l[k]?=some x→k<l.length→step (acc++cat f 0 (l.take k),(k:Int),())=some (.inl ((acc++cat f 0 (l.take k))++f k x,((k+1:Nat):Int),())))
  (hx:step (acc++cat f 0 l,(l.length:Int),())=some (.inr good)):whileM step (acc,(0:Int),())=some good:=by
 have:=loopThrough (l:=l) (ρ:=ρ) (fun k=>(acc++cat f 0 (l.take k),(k:Int),())) (step:=step) (good:=good) (fun k x hx hk=>by
  rw [hs k x hx hk,cat_snoc hx,List.append_assoc]) (by simp only [List.take_length];exact hx)
 simpa [cat] using this
abbrev Pl:=Int×Int×Int×Bool×Unit
def instPl (i:Nat) (x:TInstance):List Pl:=cat (fun j n=>[((i:Int),(j:Int),n,decide ((j:Int)=IntKind.i64.wrap (((TInstance.Nets x).length:Int)-1)),())]) 0 (TInstance.Nets x)
def portPl (j:Nat) (p:TPort):List Pl:=[((-1:Int),(j:Int),TPort.Net p,decide (TPort.Dir p=1),())]
def places (d:TDesign):List Pl:=cat instPl 0 (TDesign.Instances d)++cat portPl 0 (TDesign.Ports d)
theorem instPl_len (i:Nat) (x:TInstance):(instPl i x).length≤(TInstance.Nets x).length:=by
 have:=cat_len (f:=fun j n=>[((i:Int),(j:Int),n,decide ((j:Int)=IntKind.i64.wrap (((TInstance.Nets x).length:Int)-1)),())]) (c:=1) (l:=TInstance.Nets x) (m:=0) (fun _ _ _=>by simp)
 simpa [instPl] using this
structure Few (d:TDesign):Prop where
 insts:(TDesign.Instances d).length≤14
 ports:(TDesign.Ports d).length≤8
 nets:∀ x∈TDesign.Instances d,(TInstance.Nets x).length≤5
theorem DesignOk.few {a:TLibrary} {d:TDesign} (h:DesignOk a d):Few d:=by
 refine ⟨h.2.1.1,h.2.1.2.2.1,fun x hx=>?_⟩
 obtain ⟨_,⟨c,hc,hn⟩,_⟩:=h.2.2.1 x hx
 have:=(h.1.2.1 c (List.mem_of_getElem? hc)).2.1.2.1
 omega
theorem cat_inst_len {d:TDesign} (h:Few d) (k:Nat):(cat instPl 0 ((TDesign.Instances d).take k)).length≤70:=by
 have:=cat_len (f:=instPl) (c:=5) (l:=(TDesign.Instances d).take k) (m:=0) (fun i x hx=>by
  have h1:=instPl_len i x
  have h2:=h.nets x (List.mem_of_mem_take hx)
  omega)
 have h1:=h.insts
 rw [List.length_take] at this
 omega
theorem cat_port_len {d:TDesign} (h:Few d) (k:Nat):(cat portPl 0 ((TDesign.Ports d).take k)).length≤8:=by
 have:=cat_len (f:=portPl) (c:=1) (l:=(TDesign.Ports d).take k) (m:=0) (fun i x hx=>by simp [portPl])
 have h1:=h.ports
 rw [List.length_take] at this
 omega
theorem places_len {d:TDesign} (h:Few d):(places d).length≤78:=by
 have h1:=cat_inst_len h (TDesign.Instances d).length
 have h2:=cat_port_len h (TDesign.Ports d).length
 rw [List.take_length] at h1 h2
 unfold places
 rw [List.length_append];omega
theorem impl_Design_places_eq (d:TDesign) (h:Few d):impl_Design_places d=some (places d):=by
 have h1:=h.insts
 have h2:=h.ports
 unfold impl_Design_places
 refine appendLoop (l:=TDesign.Instances d) instPl [] (fun k x hx hk=>?_) ?_
 ·have hn:=h.nets x (List.mem_of_getElem? hx)
  have hl:=cat_inst_len h k
  simp only [List.nil_append,impl_Design_places_loop2,show (k:Int)<((TDesign.Instances d).length:Int) from by omega,if_true,atI_nat,hx,Option.bind_some]
  refine appendLoop (l:=TInstance.Nets x) (fun j n=>[((k:Int),(j:Int),n,decide ((j:Int)=IntKind.i64.wrap (((TInstance.Nets x).length:Int)-1)),())]) _ (fun j n hj hk'=>?_) ?_
  ·have hl2:=cat_len (f:=fun j n=>[((k:Int),(j:Int),n,decide ((j:Int)=IntKind.i64.wrap (((TInstance.Nets x).length:Int)-1)),())]) (c:=1) (l:=(TInstance.Nets x).take j) (m:=0) (fun _ _ _=>by simp)
   rw [List.length_take] at hl2
   simp only [impl_Design_places_loop0,show (j:Int)<((TInstance.Nets x).length:Int) from by omega,if_true,atI_nat,hj,Option.bind_some]
   rw [guardO_pos (by rw [List.length_append,List.length_singleton];omega),W_suc (by omega)]
  ·simp only [impl_Design_places_loop0,Int.lt_irrefl,if_false]
   rw [W_suc (by omega)];rfl
 ·have hl:=cat_inst_len h (TDesign.Instances d).length
  rw [List.take_length] at hl
  simp only [List.nil_append,impl_Design_places_loop2,Int.lt_irrefl,if_false]
  refine appendLoop (l:=TDesign.Ports d) portPl _ (fun j p hj hk'=>?_) ?_
  ·have hl2:=cat_port_len h j
   simp only [impl_Design_places_loop1,show (j:Int)<((TDesign.Ports d).length:Int) from by omega,if_true,atI_nat,hj,Option.bind_some]
   rw [guardO_pos (by rw [List.length_append,List.length_singleton];omega),W_suc (by omega)];rfl
  ·simp only [impl_Design_places_loop1,Int.lt_irrefl,if_false];rfl
theorem spec_l05Places_eq (d:TDesign) (h:Few d):spec_l05Places d=some (places d):=by
 have h1:=h.insts
 have h2:=h.ports
 unfold spec_l05Places
 refine appendLoop (l:=TDesign.Instances d) instPl [] (fun k x hx hk=>?_) ?_
 ·have hn:=h.nets x (List.mem_of_getElem? hx)
  have hl:=cat_inst_len h k
  simp only [List.nil_append,spec_l05Places_loop2,show (k:Int)<((TDesign.Instances d).length:Int) from by omega,if_true,atI_nat,hx,Option.bind_some]
  refine appendLoop (l:=TInstance.Nets x) (fun j n=>[((k:Int),(j:Int),n,decide ((j:Int)=IntKind.i64.wrap (((TInstance.Nets x).length:Int)-1)),())]) _ (fun j n hj hk'=>?_) ?_
  ·have hl2:=cat_len (f:=fun j n=>[((k:Int),(j:Int),n,decide ((j:Int)=IntKind.i64.wrap (((TInstance.Nets x).length:Int)-1)),())]) (c:=1) (l:=(TInstance.Nets x).take j) (m:=0) (fun _ _ _=>by simp)
   rw [List.length_take] at hl2
   simp only [spec_l05Places_loop0,show (j:Int)<((TInstance.Nets x).length:Int) from by omega,if_true,atI_nat,hj,Option.bind_some]
   rw [guardO_pos (by rw [List.length_append,List.length_singleton];omega),W_suc (by omega)]
  ·simp only [spec_l05Places_loop0,Int.lt_irrefl,if_false]
   rw [W_suc (by omega)];rfl
 ·have hl:=cat_inst_len h (TDesign.Instances d).length
  rw [List.take_length] at hl
  simp only [List.nil_append,spec_l05Places_loop2,Int.lt_irrefl,if_false]
  refine appendLoop (l:=TDesign.Ports d) portPl _ (fun j p hj hk'=>?_) ?_
  ·have hl2:=cat_port_len h j
   simp only [spec_l05Places_loop1,show (j:Int)<((TDesign.Ports d).length:Int) from by omega,if_true,atI_nat,hj,Option.bind_some]
   rw [guardO_pos (by rw [List.length_append,List.length_singleton];omega),W_suc (by omega)];rfl
  ·simp only [spec_l05Places_loop1,Int.lt_irrefl,if_false];rfl
def sinkF (net:Int) (i:Nat) (x:Pl):List Int:=if x.2.2.1=net then (if x.2.2.2.1=true then [] else [(i:Int)]) else []
def sinks (d:TDesign) (net:Int):List Int:=cat (sinkF net) 0 (places d)
theorem sinkF_len (net:Int) (l:List Pl) (m:Nat):(cat (sinkF net) m l).length≤l.length:=by
 have:=cat_len (f:=sinkF net) (c:=1) (l:=l) (m:=m) (fun i x _=>by
  unfold sinkF;split
  ·split<;>simp
  ·simp)
 omega
theorem impl_Design_sinks_eq (d:TDesign) (net:Int) (h:Few d):impl_Design_sinks d net=some (sinks d net):=by
 have hp:=places_len h
 unfold impl_Design_sinks
 rw [impl_Design_places_eq d h,Option.bind_some]
 refine appendLoop (l:=places d) (sinkF net) [] (fun k x hx hk=>?_) ?_
 ·have hl:=sinkF_len net ((places d).take k) 0
  rw [List.length_take] at hl
  simp only [List.nil_append,impl_Design_sinks_loop0,show (k:Int)<((places d).length:Int) from by omega,if_true,atI_nat,hx,Option.bind_some,sinkF,W_suc (show k≤1048576 by omega)]
  split
  ·split
   ·rw [List.append_nil]
   ·rw [guardO_pos (by
     show (List.length _+1)*8≤_
     have:(cat (sinkF net) 0 ((places d).take k)).length≤78:=by omega
     omega)]
  ·rw [List.append_nil]
 ·simp only [List.nil_append,impl_Design_sinks_loop0,Int.lt_irrefl,if_false];rfl
theorem spec_l05Sinks_eq (d:TDesign) (net:Int) (h:Few d):spec_l05Sinks d net=some (sinks d net):=by
 have hp:=places_len h
 unfold spec_l05Sinks
 rw [spec_l05Places_eq d h,Option.bind_some]
 refine appendLoop (l:=places d) (sinkF net) [] (fun k x hx hk=>?_) ?_
 ·have hl:=sinkF_len net ((places d).take k) 0
  rw [List.length_take] at hl
  simp only [List.nil_append,spec_l05Sinks_loop0,show (k:Int)<((places d).length:Int) from by omega,if_true,atI_nat,hx,Option.bind_some,sinkF,W_suc (show k≤1048576 by omega)]
  split
  ·split
   ·rw [List.append_nil]
   ·rw [guardO_pos (by
     show (List.length _+1)*8≤_
     have:(cat (sinkF net) 0 ((places d).take k)).length≤78:=by omega
     omega)]
  ·rw [List.append_nil]
 ·simp only [List.nil_append,spec_l05Sinks_loop0,Int.lt_irrefl,if_false];rfl
theorem sinks_count (net:Int):∀ (l:List Pl) (m:Nat),(cat (sinkF net) m l).length=((l.filter (fun x=>!x.2.2.2.1)).map (fun x=>x.2.2.1)).countP (fun y=>decide (y=net))
 | [],m=>by simp [cat]
 | x::r,m=>by
  simp only [cat,List.length_append,sinks_count net r,sinkF]
  obtain ⟨a,b,n,dr,u⟩:=x
  cases dr
  ·by_cases e:n=net
   ·simp [e,Nat.add_comm]
   ·simp [e]
  ·simp
end Go.Proofs.YtpkjjgdhmafonaaGreatDoor
/-
  Plain laws: wires, blocks.
-/
namespace Go.Proofs.YtpkjjgdhmafonaaGreatDoor
set_option linter.unusedVariables false
set_option linter.unusedSimpArgs false
open Go Go.Sx
theorem smWire {w:TWire} (h:sm tWire w):sm (.sl (.int .i64)) (TWire.Parent w)∧sm (.sl (.int .i64)) (TWire.Res w)∧sm (.sl (.int .i64)) (TWire.Cap w)∧sm (.sl (.int .i64)) (TWire.Sink w):=by
 refine ⟨?_,?_,?_,?_⟩
 all_goals first | exact h.1 | exact h.2.1 | exact h.2.2.1 | exact h.2.2.2.1
theorem smBlock {b:TBlock} (h:sm tBlock b):sm tLibrary (TBlock.Library b)∧sm tDesign (TBlock.Design b)∧sm (.sl tWire) (TBlock.Wires b):=by
 refine ⟨?_,?_,?_⟩
 all_goals first | exact h.1 | exact h.2.1 | exact h.2.2.1 | exact h.2.2.2.1
def NodeOk (w:TWire) (k:Nat) (x:Int):Prop:=(k=0→x=-1∧(TWire.Res w)[0]?=some 0)∧(0<k→0≤x∧x≤(k:Int)-1)
def WireOk (w:TWire) (s:Int):Prop :=
 (1≤(TWire.Parent w).length∧(TWire.Parent w).length≤8)∧(TWire.Res w).length=(TWire.Parent w).length∧(TWire.Cap w).length=(TWire.Parent w).length∧((TWire.Sink w).length:Int)=s∧
 AllE (TWire.Parent w) (NodeOk w)∧AllIn (TWire.Res w) 0 1000∧AllIn (TWire.Cap w) 0 500∧AllIn (TWire.Sink w) 0 (((TWire.Parent w).length:Int)-1)
theorem areWithin_tr (l:List Int) (lo hi:Int) (hl:l.length≤1048576):impl_areWithin l lo hi=some (tr (AllIn l lo hi)):=by
 rw [impl_areWithin_eq l lo hi (by omega)]
 exact fin_tr (allIn_iff _ _ _)
theorem impl_Wire_isTree_eq (w:TWire) (hw:sm tWire w) (h1:1≤(TWire.Parent w).length) (h2:(TWire.Res w).length=(TWire.Parent w).length):impl_Wire_isTree w=some (tr (AllE (TWire.Parent w) (NodeOk w))):=by
 obtain ⟨a1,a2,a3,a4⟩:=smWire hw
 have s1:=small_of_sm a1
 unfold impl_Wire_isTree
 have hr:(TWire.Res w)[0]?=some (TWire.Res w)[0]:=List.getElem?_eq_getElem (by omega)
 rw [loopAll (len_of_sm a1) (NodeOk w) (bad:=false) (good:=true)
  (fun k x hx hk _=>by
   simp only [impl_Wire_isTree_loop0,show (k:Int)<((TWire.Parent w).length:Int) from by omega,if_true,atI_nat,hx,Option.bind_some]
   unfold NodeOk
   by_cases hk0:k=0
   ·subst hk0
    rw [if_pos (by rfl),show atI (TWire.Res w) 0=some (TWire.Res w)[0] from hr,hr]
    simp only [Option.bind_some,Option.some.injEq]
    rw [if_neg (show ¬(0:Int)<((0:Nat):Int) by omega)]
    constructor
    ·intro hh
     obtain ⟨q1,q2⟩:=hh.1 trivial
     rw [if_pos q1,if_pos q2]
    ·intro hh
     by_cases q1:x=-1
     ·rw [if_pos q1,if_neg (fun q2=>hh ⟨fun _=>⟨q1,q2⟩,fun h=>by omega⟩)]
     ·rw [if_neg q1]
   ·rw [if_neg (by omega),if_pos (by omega),within_tr,Option.bind_some,W_in (by omega) (by omega)]
    constructor
    ·intro hh;rw [if_pos (tr_pos (hh.2 (by omega)))]
    ·intro hh;rw [if_neg (fun q=>hh ⟨fun h=>absurd h hk0,fun _=>(tr_iff _).1 q⟩)])
  (fun _=>by simp only [impl_Wire_isTree_loop0,Int.lt_irrefl,if_false]),sel_tr]
theorem impl_IsWire_eq (w:TWire) (s:Int) (hw:sm tWire w):impl_IsWire w s=some (tr (WireOk w s)):=by
 obtain ⟨a1,a2,a3,a4⟩:=smWire hw
 have s1:=small_of_sm a1
 have s2:=small_of_sm a2
 have s3:=small_of_sm a3
 have s4:=small_of_sm a4
 unfold impl_IsWire
 simp only [impl_length_int64_eq,Option.bind_some,W_in (show (-9223372036854775808:Int)≤((TWire.Parent w).length:Int)-1 by omega) (by omega)]
 refine eq_tr (bind_if (within_tr _ _ _) (fun q1=>and_ifP (fun q2=>and_ifP (fun q3=>bind_if (impl_Wire_isTree_eq w hw (by omega) (by omega)) (fun q4=>bind_if (areWithin_tr _ _ _ s2) (fun q5=>bind_if (areWithin_tr _ _ _ s3) (fun q6=>and_ifP (fun q7=>bind_tr (areWithin_tr _ _ _ s4))))))))) ?_
 unfold WireOk
 constructor
 ·rintro ⟨q1,q2,q3,q4,q5,q6,q7,q8⟩
  exact ⟨⟨by omega,by omega⟩,by omega,by omega,q7,q4,q5,q6,q8⟩
 ·rintro ⟨q1,q2,q3,q7,q4,q5,q6,q8⟩
  exact ⟨by omega,by omega,by omega,q4,q5,q6,q7,q8⟩
theorem AllIn_at {l:List Int} {lo hi:Int}:AllIn l lo hi↔∀ (k:Nat) (x:Int),l[k]?=some x→lo≤x∧x≤hi:=by
 unfold AllIn
 constructor
 ·intro h k x hx;exact h x (List.mem_of_getElem? hx)
 ·intro h x hx
  obtain ⟨k,hk⟩:=List.mem_iff_getElem?.1 hx
  exact h k x hk
theorem spec_IsWire_eq (w:TWire) (s:Int) (hw:sm tWire w):spec_IsWire w s=some (tr (WireOk w s)):=by
 obtain ⟨a1,a2,a3,a4⟩:=smWire hw
 have s1:=small_of_sm a1
 have s2:=small_of_sm a2
 have s3:=small_of_sm a3
 have s4:=small_of_sm a4
 have e1:IntKind.i64.wrap (((TWire.Parent w).length:Int)-1)=((TWire.Parent w).length:Int)-1:=W_in (by omega) (by omega)
 unfold spec_IsWire
 refine eq_tr (and_ifN (fun q1=>and_ifN (fun q2=>and_ifP (fun q3=>and_ifP (fun q4=>and_ifP (fun q5=>?_)))))) ?_
  (P:=¬((TWire.Parent w).length:Int)<1∧¬(8:Int)<((TWire.Parent w).length:Int)∧((TWire.Res w).length:Int)=((TWire.Parent w).length:Int)∧((TWire.Cap w).length:Int)=((TWire.Parent w).length:Int)∧((TWire.Sink w).length:Int)=s∧
   (AllE (TWire.Parent w) (fun k x=>(∀ c,(TWire.Cap w)[k]?=some c→0≤c∧c≤500)∧(∀ r,(TWire.Res w)[k]?=some r→0≤r∧r≤1000)∧NodeOk w k x)∧AllIn (TWire.Sink w) 0 (((TWire.Parent w).length:Int)-1)))
 ·rw [loopAll (len_of_sm a1) (fun k x=>(∀ c,(TWire.Cap w)[k]?=some c→0≤c∧c≤500)∧(∀ r,(TWire.Res w)[k]?=some r→0≤r∧r≤1000)∧NodeOk w k x) (bad:=false) (good:=tr (AllIn (TWire.Sink w) 0 (((TWire.Parent w).length:Int)-1)))
   (fun k x hx hk _=>by
    have hc:(TWire.Cap w)[k]?=some (TWire.Cap w)[k]:=List.getElem?_eq_getElem (by omega)
    have hr:(TWire.Res w)[k]?=some (TWire.Res w)[k]:=List.getElem?_eq_getElem (by omega)
    simp only [spec_IsWire_loop1,show (k:Int)<((TWire.Parent w).length:Int) from by omega,if_true,atI_nat,hc,hr,hx,Option.bind_some,l01In_tr,Option.some.injEq,forall_eq']
    generalize (TWire.Cap w)[k]=c at hc
    generalize (TWire.Res w)[k]=r at hr
    by_cases qc:0≤c∧c≤500
    ·rw [if_pos (tr_pos qc)]
     by_cases qr:0≤r∧r≤1000
     ·rw [if_pos (tr_pos qr)]
      unfold NodeOk
      by_cases hk0:k=0
      ·subst hk0
       rw [if_pos (by rfl),hr]
       simp only [Option.some.injEq]
       rw [if_neg (show ¬(0:Int)<((0:Nat):Int) by omega)]
       constructor
       ·rintro ⟨_,_,hh⟩
        obtain ⟨q1,q2⟩:=hh.1 trivial
        rw [if_pos q1,if_pos q2]
       ·intro hh
        by_cases q1:x=-1
        ·rw [if_pos q1,if_neg (fun q2=>hh ⟨qc,qr,fun _=>⟨q1,q2⟩,fun h=>by omega⟩)]
        ·rw [if_neg q1]
      ·rw [if_neg (by omega),if_pos (by omega),W_in (show (-9223372036854775808:Int)≤(k:Int)-1 by omega) (by omega)]
       constructor
       ·intro hh;rw [if_pos (tr_pos (hh.2.2.2 (by omega)))]
       ·intro hh;rw [if_neg (fun q=>hh ⟨qc,qr,fun h=>absurd h hk0,fun _=>(tr_iff _).1 q⟩)]
     ·rw [if_neg (fun q=>qr ((tr_iff _).1 q))]
      exact ⟨fun hh=>absurd hh.2.1 qr,fun _=>rfl⟩
    ·rw [if_neg (fun q=>qc ((tr_iff _).1 q))]
     exact ⟨fun hh=>absurd hh.1 qc,fun _=>rfl⟩)
   (fun _=>by
    simp only [spec_IsWire_loop1,Int.lt_irrefl,if_false]
    rw [loopAll (len_of_sm a4) (fun _ x=>0≤x∧x≤((TWire.Parent w).length:Int)-1) (bad:=.inr false) (good:=.inr true)
     (fun k x hx hk _=>by
      simp only [spec_IsWire_loop0,show (k:Int)<((TWire.Sink w).length:Int) from by omega,if_true,atI_nat,hx,Option.bind_some,l01In_tr,e1]
      constructor
      ·intro hh;rw [if_pos (tr_pos hh)]
      ·intro hh;rw [if_neg (fun q=>hh ((tr_iff _).1 q))])
     (fun _=>by simp only [spec_IsWire_loop0,Int.lt_irrefl,if_false])]
    congr 1
    have e:AllE (TWire.Sink w) (fun _ x=>0≤x∧x≤((TWire.Parent w).length:Int)-1)↔AllIn (TWire.Sink w) 0 (((TWire.Parent w).length:Int)-1):=AllE_mem
    by_cases hh:AllIn (TWire.Sink w) 0 (((TWire.Parent w).length:Int)-1)
    ·rw [sel_pos (e.2 hh),tr_pos hh]
    ·rw [sel_neg (fun q=>hh (e.1 q)),tr_neg hh]),sel_then]
 ·unfold WireOk
  rw [AllIn_at (l:=TWire.Res w),AllIn_at (l:=TWire.Cap w)]
  constructor
  ·rintro ⟨q1,q2,q3,q4,q5,q6,q7⟩
   refine ⟨⟨by omega,by omega⟩,by omega,by omega,q5,fun k x hx=>(q6 k x hx).2.2,fun k r hr=>?_,fun k c hc=>?_,q7⟩
   ·have hk:=(List.getElem?_eq_some_iff.1 hr).1
    exact (q6 k _ (List.getElem?_eq_getElem (by omega))).2.1 r hr
   ·have hk:=(List.getElem?_eq_some_iff.1 hc).1
    exact (q6 k _ (List.getElem?_eq_getElem (by omega))).1 c hc
  ·rintro ⟨q1,q2,q3,q5,q6,q7,q8,q9⟩
   exact ⟨by omega,by omega,by omega,by omega,q5,fun k x hx=>⟨fun c hc=>q8 k c hc,fun r hr=>q7 k r hr,q6 k x hx⟩,q9⟩
def BlockOk (b:TBlock):Prop :=
 DesignOk (TBlock.Library b) (TBlock.Design b)∧(TBlock.Wires b).length=(TDesign.Nets (TBlock.Design b)).length∧AllE (TBlock.Wires b) (fun k w=>WireOk w ((sinks (TBlock.Design b) (k:Int)).length:Int))
theorem place_net {a:TLibrary} {d:TDesign} (h:DesignOk a d) {x:Pl} (hx:x∈places d):IsNet d x.2.2.1:=by
 unfold places at hx
 rcases List.mem_append.1 hx with hx | hx
 ·obtain ⟨i,z,hi,hz⟩:=mem_cat.1 hx
  unfold instPl at hz
  obtain ⟨j,n,hj,hn⟩:=mem_cat.1 hz
  simp only [List.mem_singleton] at hn
  subst hn
  exact (h.2.2.1 z (List.mem_of_getElem? hi)).2.2 n (List.mem_of_getElem? hj)
 ·obtain ⟨j,p,hj,hp⟩:=mem_cat.1 hx
  simp only [portPl,List.mem_singleton] at hp
  subst hp
  exact (h.2.2.2.1 p (List.mem_of_getElem? hj)).2
theorem spec_IsBlock_eq (b:TBlock) (hb:sm tBlock b):spec_IsBlock b=some (tr (BlockOk b)):=by
 obtain ⟨a1,a2,a3⟩:=smBlock hb
 have s3:=small_of_sm a3
 unfold spec_IsBlock
 refine eq_tr (bind_if (spec_IsDesign_eq _ _ a1 a2) (fun hD=>and_ifP (fun q1=>?_))) ?_
  (P:=DesignOk (TBlock.Library b) (TBlock.Design b)∧((TBlock.Wires b).length:Int)=((TDesign.Nets (TBlock.Design b)).length:Int)∧AllE (TBlock.Wires b) (fun k w=>WireOk w ((sinks (TBlock.Design b) (k:Int)).length:Int)))
 ·rw [loopAll (len_of_sm a3) (fun k w=>WireOk w ((sinks (TBlock.Design b) (k:Int)).length:Int)) (bad:=false) (good:=true)
   (fun k w hx hk _=>by
    simp only [spec_IsBlock_loop0,show (k:Int)<((TBlock.Wires b).length:Int) from by omega,if_true,atI_nat,hx,Option.bind_some,spec_l05Sinks_eq _ _ hD.few,spec_IsWire_eq w _ (sm_get a3 hx)]
    constructor
    ·intro hh;rw [if_pos (tr_pos hh)]
    ·intro hh;rw [if_neg (fun q=>hh ((tr_iff _).1 q))])
   (fun _=>by simp only [spec_IsBlock_loop0,Int.lt_irrefl,if_false]),sel_tr]
 ·unfold BlockOk
  rw [show ((TBlock.Wires b).length:Int)=((TDesign.Nets (TBlock.Design b)).length:Int)↔(TBlock.Wires b).length=(TDesign.Nets (TBlock.Design b)).length from by omega]
theorem loads_snoc {l:List Pl} {k:Nat} {x:Pl} (hx:l[k]?=some x) :
  (((l.take (k+1)).filter (fun x=>!x.2.2.2.1)).map (fun x=>x.2.2.1))=if x.2.2.2.1=true then (((l.take k).filter (fun x=>!x.2.2.2.1)).map (fun x=>x.2.2.1)) else (((l.take k).filter (fun x=>!x.2.2.2.1)).map (fun x=>x.2.2.1))++[x.2.2.1]:=by
 rw [take_snoc hx,List.filter_append,List.map_append]
 by_cases h:x.2.2.2.1=true
 ·rw [if_pos h];simp [h]
 ·rw [if_neg h];simp [h]
theorem impl_IsBlock_eq (b:TBlock) (hb:sm tBlock b):impl_IsBlock b=some (tr (BlockOk b)):=by
 obtain ⟨a1,a2,a3⟩:=smBlock hb
 have s3:=small_of_sm a3
 unfold impl_IsBlock
 refine eq_tr (bind_if (impl_IsDesign_eq _ _ a1 a2) (fun hD=>and_ifP (fun q1=>?_))) ?_
  (P:=DesignOk (TBlock.Library b) (TBlock.Design b)∧((TBlock.Wires b).length:Int)=((TDesign.Nets (TBlock.Design b)).length:Int)∧AllE (TBlock.Wires b) (fun k w=>WireOk w ((sinks (TBlock.Design b) (k:Int)).length:Int)))
 ·rw [guardO_pos (by omega),guardO_pos (by omega),guardO_pos (by omega),guardO_pos (by omega),impl_Design_places_eq _ hD.few,Option.bind_some]
  have hpl:=places_len hD.few
  have:=loopThrough (l:=places (TBlock.Design b)) (ρ:=Bool) (fun k=>((k:Int),cnts (TBlock.Wires b).length ((((places (TBlock.Design b)).take k).filter (fun x=>!x.2.2.2.1)).map (fun x=>x.2.2.1)),())) (step:=fun v=>impl_IsBlock_loop1 b (places (TBlock.Design b)) v.1 v.2.1) (good:=tr (AllE (TBlock.Wires b) (fun k w=>WireOk w ((sinks (TBlock.Design b) (k:Int)).length:Int))))
   (fun k x hx hk=>by
    have hn:=place_net hD (List.mem_of_getElem? hx)
    have hl1:=List.length_filter_le (fun x:Pl=>!x.2.2.2.1) ((places (TBlock.Design b)).take k)
    rw [List.length_take] at hl1
    simp only [impl_IsBlock_loop1,show (k:Int)<((places (TBlock.Design b)).length:Int) from by omega,if_true,atI_nat,hx,Option.bind_some,loads_snoc hx]
    by_cases hd:x.2.2.2.1=true
    ·rw [if_pos hd,if_pos hd,W_suc (by omega)]
    ·rw [if_neg hd,if_neg hd,cnts_step hn.1 (by have:=hn.2;show x.2.2.1<_;omega) (by rw [List.length_map];omega) (F:=fun o=>some (Sum.inl (IntKind.i64.wrap ((k:Int)+1),o,()))),W_suc (by omega)])
   (by
    simp only [impl_IsBlock_loop1,Int.lt_irrefl,if_false,List.take_length]
    rw [loopAll (len_of_sm a3) (fun k w=>WireOk w ((sinks (TBlock.Design b) (k:Int)).length:Int)) (bad:=.inr false) (good:=.inr true)
     (fun k w hx hk _=>by
      have hc:(sinks (TBlock.Design b) (k:Int)).length=_:=sinks_count (k:Int) (places (TBlock.Design b)) 0
      simp only [impl_IsBlock_loop0,show (k:Int)<((TBlock.Wires b).length:Int) from by omega,if_true,atI_nat,hx,Option.bind_some]
      rw [cnts_get hk,Option.bind_some,impl_IsWire_eq w _ (sm_get a3 hx),Option.bind_some,hc]
      constructor
      ·intro hh;rw [if_pos (tr_pos hh)]
      ·intro hh;rw [if_neg (fun q=>hh ((tr_iff _).1 q))])
     (fun _=>by simp only [impl_IsBlock_loop0,Int.lt_irrefl,if_false])]
    congr 1
    by_cases hh:AllE (TBlock.Wires b) (fun k w=>WireOk w ((sinks (TBlock.Design b) (k:Int)).length:Int))
    ·rw [sel_pos hh,tr_pos hh]
    ·rw [sel_neg hh,tr_neg hh])
  rw [List.take_zero,List.filter_nil,List.map_nil,cnts_nil] at this
  exact this
 ·unfold BlockOk
  rw [show ((TBlock.Wires b).length:Int)=((TDesign.Nets (TBlock.Design b)).length:Int)↔(TBlock.Wires b).length=(TDesign.Nets (TBlock.Design b)).length from by omega]
structure BlkSm (b:TBlock):Prop where
 ok:BlockOk b
 sm:sm tBlock b
end Go.Proofs.YtpkjjgdhmafonaaGreatDoor
