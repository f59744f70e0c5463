/-
  Plain laws: designs.
-/
import Derived.Test.YtdabmnfkcnkkbaaGreatDoorLB
namespace Go.Proofs.YtdabmnfkcnkkbaaGreatDoor
set_option linter.unusedVariables false
set_option linter.unusedSimpArgs false
open Go Go.Sx
theorem ZaZ {d:ZT} (h:sm YQ d):sm (.sl Yr) (ZT.Instances d)∧sm (.sl VX) (ZT.Yo d)∧sm (.sl .str) (ZT.Yh d):=by
 refine ⟨?_,?_,?_⟩
 ·first | exact h.1 | exact h.2.1 | exact h.2.2.1 | exact h.2.2.2.1
 ·first | exact h.1 | exact h.2.1 | exact h.2.2.1 | exact h.2.2.2.1
 ·first | exact h.1 | exact h.2.1 | exact h.2.2.1 | exact h.2.2.2.1
theorem Zi3 {x:ZW} (h:sm Yr x):sm .str (ZW.Name x)∧sm (.sl (.int .i64)) (ZW.Yh x):=by
 refine ⟨?_,?_⟩
 ·first | exact h.1 | exact h.2.1 | exact h.2.2.1 | exact h.2.2.2.1
 ·first | exact h.1 | exact h.2.1 | exact h.2.2.1 | exact h.2.2.2.1
theorem Ztg {x:Ym} (h:sm VX x):sm .str (Ym.Name x):=by
 first | exact h.1 | exact h.2.1 | exact h.2.2.1 | exact h.2.2.2.1
theorem ZfG (d:ZT) (h:sm YQ d):V5 d=some (tr (Zif d)):=by
 obtain ⟨h1,h2,h3⟩:=ZaZ h
 have s1:=Z8 h1
 have s2:=Z8 h2
 have s3:=Z8 h3
 unfold V5
 refine gather (l:=ZT.Instances d) s1 ZW.Name (fun k x o hx hk ho=>?_) ?_
 ·simp only [VF,hk,if_true,Yd,hx,Option.bind_some]
 simp only [VF,Int.lt_irrefl,if_false]
 have hi:(Jy d).length=(ZT.Instances d).length:=by simp [Jy]
 have hp:(Zbf d).length=(ZT.Yo d).length:=by simp [Zbf]
 refine gather (l:=ZT.Yo d) s2 Ym.Name (fun k x o hx hk ho=>?_) ?_
 ·simp only [VE,hk,if_true,Yd,hx,Option.bind_some]
 simp only [VE,Int.lt_irrefl,if_false]
 rw [show List.map Ym.Name (ZT.Yo d)=Zbf d from rfl,show List.map ZW.Name (ZT.Instances d)=Jy d from rfl]
 simp only [hi,hp,JW _ (show (Jy d).length≤4611686018427387904 by omega),JW _ (show (Zbf d).length≤4611686018427387904 by omega),JW _ (show (ZT.Yh d).length≤4611686018427387904 by omega),Option.bind_some]
 unfold Zif
 rw [hi,hp]
 by_cases a:(ZT.Instances d).length≤14
 ·rw [if_pos (by omega)]
  by_cases b:(ZT.Yh d).length≤30
  ·rw [if_pos (by omega)]
   by_cases c:(ZT.Yo d).length≤8
   ·rw [if_pos (by omega)]
    by_cases e:QW (Jy d) (ZT.Instances d).length
    ·rw [if_pos (Xh e)]
     by_cases f:QW (ZT.Yh d) (ZT.Yh d).length
     ·rw [if_pos (Xh f)]
      congr 3
      exact Vd ⟨fun q=>⟨a,b,c,e,f,q⟩,fun q=>q.2.2.2.2.2⟩
     ·rw [if_neg (by rw [YL f];simp),YL (fun q=>f q.2.2.2.2.1)]
    ·rw [if_neg (by rw [YL e];simp),YL (fun q=>e q.2.2.2.1)]
   ·rw [if_neg (by omega),YL (fun q=>c q.2.2.1)]
  ·rw [if_neg (by omega),YL (fun q=>b q.2.1)]
 ·rw [if_neg (by omega),YL (fun q=>a q.1)]
def Zkf (n:Nat) (s:List Int):List Int:=(List.range n).map (fun (j:Nat)=>((s.countP (fun x=>decide (x=(j:Int))):Nat):Int))
theorem ZfE (n:Nat) (s:List Int):(Zkf n s).length=n:=by simp [Zkf]
theorem Zm7 (n:Nat):Zkf n []=List.replicate n 0:=by
 apply List.ext_getElem?
 intro i
 simp only [Zkf,List.countP_nil,List.getElem?_map,List.getElem?_replicate,List.getElem?_range]
 by_cases h:i<n
 ·simp [h]
 ·simp [h]
theorem ZgT {n:Nat} {s:List Int} {j:Nat} (h:j<n):(Zkf n s)[j]?=some ((s.countP (fun x=>decide (x=(j:Int))):Nat):Int):=by
 simp [Zkf,h]
theorem Ztw {n:Nat} {s:List Int} {x:Int} (h0:0≤x) (h1:x<(n:Int)):atI (Zkf n s) x=some ((s.countP (fun y=>decide (y=x)):Nat):Int):=by
 refine Qd h0 ?_
 rw [ZgT (by omega),show ((x.toNat:Nat):Int)=x by omega]
theorem Zsh {n:Nat} {s:List Int} {x:Int} (h0:0≤x) (h1:x<(n:Int)):List.set (Zkf n s) (Int.toNat x) (((s.countP (fun y=>decide (y=x)):Nat):Int)+1)=Zkf n (s++[x]):=by
 apply List.ext_getElem?
 intro i
 rw [List.getElem?_set]
 by_cases hi:i<n
 ·rw [ZgT hi,ZgT hi,List.countP_append,ZfE]
  by_cases e:x.toNat=i
  ·subst e
   rw [if_pos rfl,if_pos (by omega),show ((x.toNat:Nat):Int)=x by omega]
   simp
  ·rw [if_neg e]
   have:¬x=(i:Int):=by omega
   simp [List.countP_cons,this]
 ·have h1:(Zkf n s)[i]?=none:=by rw [List.getElem?_eq_none];rw [ZfE];omega
  have h2:(Zkf n (s++[x]))[i]?=none:=by rw [List.getElem?_eq_none];rw [ZfE];omega
  rw [h1,h2]
  split
  ·split
   ·rename_i h3;rw [ZfE] at h3;omega
   ·rfl
  ·rfl
theorem Zgs {n:Nat} {s:List Int} {x:Int} (h0:0≤x) (h1:x<(n:Int)) (hs:s.length≤1048576000) {τ:Type} (F:List Int→Option τ) :
  ((atI (Zkf n s) x).bind fun y=>F (List.set (Zkf n s) (Int.toNat x) (IntKind.i64.wrap (y+1))))=F (Zkf n (s++[x])):=by
 have h2:=List.countP_le_length (p:=fun y=>decide (y=x)) (l:=s)
 rw [Ztw h0 h1,Option.bind_some,V4 (by omega) (by omega),Zsh h0 h1]
def XT (x:ZW):Int:=(ZW.Yh x).getLastD 0
def Zab (d:ZT) (n:Int):Prop:=0≤n∧n≤((ZT.Yh d).length:Int)-1
def Zhi (a:Z7) (d:ZT) (x:ZW):Prop :=
 (0≤ZW.Cell x∧ZW.Cell x≤((Z7.Cells a).length:Int)-1)∧(∃ c,(Z7.Cells a)[(ZW.Cell x).toNat]?=some c∧(ZW.Yh x).length=(Z4.YV c).length)∧∀ n∈ZW.Yh x,Zab d n
def Zhm (d:ZT) (p:Ym):Prop:=(1≤Ym.Dir p∧Ym.Dir p≤2)∧Zab d (Ym.Net p)
def ZkZ (d:ZT):List Int:=(ZT.Instances d).map XT++((ZT.Yo d).filter (fun p=>decide (Ym.Dir p=1))).map Ym.Net
def Zfg (d:ZT):Prop:=∀ x∈Zkf (ZT.Yh d).length (ZkZ d),x=1
def Qr (a:Z7) (d:ZT):Prop:=Zox a∧Zif d∧(∀ x∈ZT.Instances d,Zhi a d x)∧(∀ p∈ZT.Yo d,Zhm d p)∧Zfg d
theorem Zhi.last {a:Z7} {d:ZT} {x:ZW} (h:Zhi a d x) (hl:Zox a) (hsm:(ZW.Yh x).length≤1048576):atI (ZW.Yh x) (IntKind.i64.wrap (((ZW.Yh x).length:Int)-1))=some (XT x)∧Zab d (XT x):=by
 obtain ⟨_,⟨c,hc,hn⟩,hall⟩:=h
 have h2:2≤(Z4.YV c).length:=(hl.2.1 c (List.mem_of_getElem? hc)).2.1.1
 unfold XT
 cases hN:ZW.Yh x with
 | nil=>rw [hN] at hn;simp at hn;omega
 | cons y r =>
  rw [hN] at hsm
  rw [Zs8 hsm (by simp),Yd]
  have e:(y::r)[(y::r).length-1]?=some ((y::r).getLastD 0):=by
   rw [←List.getLast?_eq_getElem?,List.getLastD_eq_getLast?,List.getLast?_cons];rfl
  exact ⟨e,hall _ (by rw [hN];exact List.mem_of_getElem? e)⟩
theorem Zba (d:ZT) (n:Int) (h:sm YQ d):Xd d n=some (tr (Zab d n)):=by
 have s3:=Z8 (ZaZ h).2.2
 unfold Xd
 rw [show Xe (ZT.Yh d)=some ((ZT.Yh d).length:Int) from rfl,Option.bind_some,V4 (by omega) (by omega)]
 exact Zcc (JZ _ _ _)
theorem Ze7 (d:ZT) (a:Z7) (x:ZW) (hd:sm YQ d) (ha:sm Y9 a) (hx:sm Yr x):Vx d a x=some (tr (Zhi a d x)):=by
 have sa:=Z8 (Zmw ha)
 unfold Vx
 rw [show X6 (Z7.Cells a)=some ((Z7.Cells a).length:Int) from rfl,Option.bind_some,V4 (by omega) (by omega)]
 refine VA (P:=(0≤ZW.Cell x∧ZW.Cell x≤((Z7.Cells a).length:Int)-1)∧Zhi a d x) (Xz (JZ _ _ _) (fun hw=>?_)) ⟨fun q=>q.2,fun q=>⟨q.1,q⟩⟩
 obtain ⟨c,hc1,hc2⟩:=ZqM hw.1 (show ZW.Cell x<((Z7.Cells a).length:Int) by omega)
 rw [hc1,Option.bind_some]
 refine VA (P:=((ZW.Yh x).length:Int)=((Z4.YV c).length:Int)∧∀ n∈ZW.Yh x,Zab d n) (Y2 (fun he=>?_)) ?_
 ·rw [Qb (XK (Zi3 hx).2) (fun n=>!tr (Zab d n)) (fun n _=>by
   unfold XR
   show (Xd d n).bind _=_
   rw [Zba d n hd];rfl),Option.bind_some]
  refine Zch ?_
  rw [Bool.not_eq_true',List.any_eq_false]
  constructor
  ·intro q n hn
   have:=q n hn
   simp only [Bool.not_eq_true',Bool.not_eq_false] at this
   exact (QA _).1 this
  ·intro q n hn
   simp only [Bool.not_eq_true',Bool.not_eq_false]
   exact Xh (q n hn)
 ·constructor
  ·rintro ⟨q1,q2⟩;exact ⟨hw,⟨c,hc2,by omega⟩,q2⟩
  ·rintro ⟨_,⟨c',q1,q2⟩,q3⟩
   rw [hc2] at q1;injection q1 with q1;subst q1
   exact ⟨by omega,q3⟩
theorem Zpm {d:ZT} {k:Nat} {p:Ym} (hx:(ZT.Yo d)[k]?=some p) (s:List Int) :
  s++(((ZT.Yo d).take (k+1)).filter (fun p=>decide (Ym.Dir p=1))).map Ym.Net=(if Ym.Dir p=1 then (s++(((ZT.Yo d).take k).filter (fun p=>decide (Ym.Dir p=1))).map Ym.Net)++[Ym.Net p] else s++(((ZT.Yo d).take k).filter (fun p=>decide (Ym.Dir p=1))).map Ym.Net):=by
 rw [Y7 hx,List.filter_append,List.map_append]
 by_cases h:Ym.Dir p=1
 ·rw [if_pos h];simp [h]
 ·rw [if_neg h];simp [h]
theorem Zq3 {d:ZT} (k m:Nat):(((ZT.Instances d).take m).map XT++(((ZT.Yo d).take k).filter (fun p=>decide (Ym.Dir p=1))).map Ym.Net).length≤(ZT.Instances d).length+(ZT.Yo d).length:=by
 have h:=List.length_filter_le (fun p=>decide (Ym.Dir p=1)) ((ZT.Yo d).take k)
 simp only [List.length_append,List.length_map,List.length_take] at h ⊢
 omega
theorem Zki (a:Z7) (d:ZT) (ha:sm Y9 a) (hd:sm YQ d):ZdR a d=some (tr (Qr a d)):=by
 obtain ⟨h1,h2,h3⟩:=ZaZ hd
 have s1:=Z8 h1
 have s2:=Z8 h2
 have s3:=Z8 h3
 unfold ZdR
 refine VA (P:=Zox a∧Zif d∧(Zff (ZT.Instances d) (fun _ x=>Zhi a d x)∧(Zff (ZT.Yo d) (fun _ p=>Zhm d p)∧Zfg d))) (Xz (Zjj a ha) (fun hL=>Xz (ZfG d hd) (fun hN=>?_))) (by rw [Zc8,Zc8];exact Iff.rfl)
 rw [Z5 (by omega),Z5 (by omega),Z5 (by omega),Z5 (by omega)]
 have:=ZgX (l:=ZT.Instances d) (ρ:=Bool) (fun k=>((k:Int),Zkf (ZT.Yh d).length (((ZT.Instances d).take k).map XT),())) (fun _ x=>Zhi a d x) (step:=fun v=>JI a d v.1 v.2.1) (bad:=false) (good:=tr (Zff (ZT.Yo d) (fun _ p=>Zhm d p)∧Zfg d))
  (fun k x hx hk _=>by
   have hsx:=Jp h1 hx
   simp only [JI,show (k:Int)<((ZT.Instances d).length:Int) from by omega,if_true,Yd,hx,Option.bind_some,Ze7 d a x hd ha hsx]
   constructor
   ·intro hh
    obtain ⟨e1,e2⟩:=hh.last hL (Z8 (Zi3 hsx).2)
    rw [if_pos (Xh hh),e1,Option.bind_some,Zgs e2.1 (by have:=e2.2;omega) (by simp only [List.length_map,List.length_take];omega) (F:=fun o=>some (Sum.inl (IntKind.i64.wrap ((k:Int)+1),o,()))),Y7 hx,List.map_append,Vm (by omega)]
    rfl
   ·intro hh;rw [if_neg (by rw [YL hh];simp)])
  (fun hA=>by
   simp only [JI,Int.lt_irrefl,if_false,List.take_length]
   have:=ZgX (l:=ZT.Yo d) (ρ:=Int×List Int×Unit ⊕ Bool) (fun k=>((k:Int),Zkf (ZT.Yh d).length ((ZT.Instances d).map XT++(((ZT.Yo d).take k).filter (fun p=>decide (Ym.Dir p=1))).map Ym.Net),())) (fun _ p=>Zhm d p) (step:=fun v=>Vn d v.1 v.2.1) (bad:=.inr false) (good:=.inr (tr (Zfg d)))
    (fun k p hx hk _=>by
     have hl:=Zq3 (d:=d) k (ZT.Instances d).length
     rw [List.take_length] at hl
     simp only [Vn,show (k:Int)<((ZT.Yo d).length:Int) from by omega,if_true,Yd,hx,Option.bind_some,Zba d _ hd,Zpm hx]
     by_cases d1:Ym.Dir p=1
     ·simp only [d1,if_true]
      constructor
      ·intro hh
       rw [if_pos (Xh hh.2),Zgs hh.2.1 (by have:=hh.2.2;omega) (by omega) (F:=fun o=>some (Sum.inl (IntKind.i64.wrap ((k:Int)+1),o,()))),Vm (by omega)]
      ·intro hh
       rw [if_neg (by rw [YL (fun q=>hh ⟨by omega,q⟩)];simp)]
     ·simp only [d1,if_false]
      by_cases d2:Ym.Dir p=2
      ·simp only [d2,if_true]
       constructor
       ·intro hh
        rw [if_pos (Xh hh.2),Vm (by omega)]
       ·intro hh
        rw [if_neg (by rw [YL (fun q=>hh ⟨by omega,q⟩)];simp)]
      ·simp only [d2,if_false]
       exact ⟨fun hh=>by have:=hh.1;omega,fun _=>trivial⟩)
    (fun _=>by
     simp only [Vn,Int.lt_irrefl,if_false,List.take_length]
     rw [Vr (show Len _ by show List.length _≤_;rw [ZfE];omega) (fun n=>!decide (n=1)) (fun n _=>rfl),Option.bind_some]
     congr 3
     refine (ZnC ?_).symm
     rw [Bool.not_eq_true',List.any_eq_false]
     simp only [Bool.not_eq_true',Bool.not_eq_false,decide_eq_true_eq,decide_eq_false_iff_not,Classical.not_not]
     exact Iff.rfl)
   refine (show Yc (fun v=>Vn d v.1 v.2.1) ((0:Int),Zkf (ZT.Yh d).length ((ZT.Instances d).map XT),())=_ from (by simpa using this)).trans ?_
   by_cases hP:Zff (ZT.Yo d) (fun _ p=>Zhm d p)
   ·rw [QL hP];congr 2;exact Vd ⟨fun q=>⟨hP,q⟩,fun q=>q.2⟩
   ·rw [X8 hP,YL (fun q=>hP q.1)])
 rw [ZiY] at this
 refine Eq.trans ?_ this
 rw [List.take_zero,List.map_nil,Zm7]
 rfl
end Go.Proofs.YtdabmnfkcnkkbaaGreatDoor
/-
  Plain laws: designs by the reference; places.
-/
namespace Go.Proofs.YtdabmnfkcnkkbaaGreatDoor
set_option linter.unusedVariables false
set_option linter.unusedSimpArgs false
open Go Go.Sx
theorem ZkE (a:Z7) (d:ZT) (ha:sm Y9 a) (hd:sm YQ d):Zd3 a d=some (tr (Zff (ZT.Instances d) (fun _ x=>Zhi a d x)∧Zff (ZT.Yo d) (fun _ p=>Zhm d p))):=by
 obtain ⟨h1,h2,h3⟩:=ZaZ hd
 have s1:=Z8 h1
 have s2:=Z8 h2
 have s3:=Z8 h3
 have sa:=Z8 (Zmw ha)
 have e1:IntKind.i64.wrap (((ZT.Yh d).length:Int)-1)=((ZT.Yh d).length:Int)-1:=V4 (by omega) (by omega)
 have e2:IntKind.i64.wrap (((Z7.Cells a).length:Int)-1)=((Z7.Cells a).length:Int)-1:=V4 (by omega) (by omega)
 unfold Zd3
 rw [Jk (XK h1) (fun _ x=>Zhi a d x) (bad:=false) (good:=tr (Zff (ZT.Yo d) (fun _ p=>Zhm d p)))
  (fun k x hx hk _=>by
   have hsx:=Jp h1 hx
   simp only [ZbY,show (k:Int)<((ZT.Instances d).length:Int) from by omega,if_true,Yd,hx,Option.bind_some,JJ,e2]
   by_cases hc:0≤ZW.Cell x∧ZW.Cell x≤((Z7.Cells a).length:Int)-1
   ·obtain ⟨c,hc1,hc2⟩:=ZqM hc.1 (show ZW.Cell x<((Z7.Cells a).length:Int) by omega)
    rw [if_pos (Xh hc),hc1,Option.bind_some]
    by_cases hp:((ZW.Yh x).length:Int)=((Z4.YV c).length:Int)
    ·rw [if_pos hp,Jk (XK (Zi3 hsx).2) (fun _ n=>Zab d n) (bad:=.inr false) (good:=.inl (IntKind.i64.wrap ((k:Int)+1),()))
      (fun j n hn hj _=>by
       simp only [ZbW,show (j:Int)<((ZW.Yh x).length:Int) from by omega,if_true,Yd,hn,Option.bind_some,JJ,e1]
       constructor
       ·intro hh;exact if_pos (Xh hh)
       ·intro hh;exact if_neg (fun q=>hh ((QA _).1 q)))
      (fun _=>by simp only [ZbW,Int.lt_irrefl,if_false])]
     constructor
     ·intro hh;rw [QL (Zc8.2 hh.2.2)]
     ·intro hh;rw [X8 (fun q=>hh ⟨hc,⟨c,hc2,by omega⟩,Zc8.1 q⟩)]
    ·rw [if_neg hp]
     refine ⟨fun hh=>?_,fun _=>rfl⟩
     obtain ⟨_,⟨c',q1,q2⟩,_⟩:=hh
     rw [hc2] at q1;injection q1 with q1;subst q1
     exact absurd (by omega) hp
   ·rw [if_neg (by rw [YL hc];simp)]
    exact ⟨fun hh=>absurd hh.1 hc,fun _=>rfl⟩)
  (fun _=>by
   simp only [ZbY,Int.lt_irrefl,if_false]
   rw [Jk (XK h2) (fun _ p=>Zhm d p) (bad:=.inr false) (good:=.inr true)
    (fun k p hx hk _=>by
     simp only [ZbX,show (k:Int)<((ZT.Yo d).length:Int) from by omega,if_true,Yd,hx,Option.bind_some,JJ,e1]
     by_cases hc:1≤Ym.Dir p∧Ym.Dir p≤2
     ·rw [if_pos (Xh hc)]
      constructor
      ·intro hh;exact if_pos (Xh hh.2)
      ·intro hh;exact if_neg (fun q=>hh ⟨hc,(QA _).1 q⟩)
     ·rw [if_neg (by rw [YL hc];simp)]
      exact ⟨fun hh=>absurd hh.1 hc,fun _=>rfl⟩)
    (fun _=>by simp only [ZbX,Int.lt_irrefl,if_false])]
   congr 1
   by_cases hh:Zff (ZT.Yo d) (fun _ p=>Zhm d p)
   ·rw [QL hh,Xh hh]
   ·rw [X8 hh,YL hh])]
 rw [ZiY]
theorem ZpH {α:Type} {l:List α} {f:α→List UInt8} (h:∀ x∈l,(f x).length≤4611686018427387904):∀ s∈l.map f,s.length≤4611686018427387904:=by
 intro s hs
 obtain ⟨x,hx,rfl⟩:=List.mem_map.1 hs
 exact h x hx
theorem ZkC (a:Z7) (d:ZT) (ha:sm Y9 a) (hd:sm YQ d):Zd0 a d=some (tr (Qr a d)):=by
 obtain ⟨h1,h2,h3⟩:=ZaZ hd
 have s1:=Z8 h1
 have s2:=Z8 h2
 have s3:=Z8 h3
 unfold Zd0
 refine VA (Xz (ZjS a ha) (fun hL=>ZfB (fun a1=>ZfB (fun a2=>ZfB (fun a3=>Xz (ZkE a d ha hd) (fun hP=>?_))))))
  (P:=Zox a∧¬(14:Int)<((ZT.Instances d).length:Int)∧¬(30:Int)<((ZT.Yh d).length:Int)∧¬(8:Int)<((ZT.Yo d).length:Int)∧(Zff (ZT.Instances d) (fun _ x=>Zhi a d x)∧Zff (ZT.Yo d) (fun _ p=>Zhm d p))∧(QW (Jy d) (Jy d).length∧QW (Zbf d) (Zbf d).length∧QW (ZT.Yh d) (ZT.Yh d).length)∧Zfg d) ?_
 ·have hi:(Jy d).length=(ZT.Instances d).length:=by simp [Jy]
  have hp:(Zbf d).length=(ZT.Yo d).length:=by simp [Zbf]
  refine gather (l:=ZT.Instances d) s1 ZW.Name (fun k x o hx hk ho=>?_) ?_
  ·simp only [ZbS,hk,if_true,Yd,hx,Option.bind_some]
  simp only [ZbS,Int.lt_irrefl,if_false]
  refine gather (l:=ZT.Yo d) s2 Ym.Name (fun k x o hx hk ho=>?_) ?_
  ·simp only [ZbR,hk,if_true,Yd,hx,Option.bind_some]
  simp only [ZbR,Int.lt_irrefl,if_false]
  rw [show List.map Ym.Name (ZT.Yo d)=Zbf d from rfl,show List.map ZW.Name (ZT.Instances d)=Jy d from rfl]
  simp only [ZdG (Jy d) (by omega) (ZpH (fun x hx=>ZgP (Zi3 (ZpR h1 hx)).1)),ZdG (Zbf d) (by omega) (ZpH (fun x hx=>ZgP (Ztg (ZpR h2 hx)))),ZdG (ZT.Yh d) (by omega) (fun s hs=>ZgP (ZpR h3 hs)),Option.bind_some]
  by_cases n1:QW (Jy d) (Jy d).length
  ·rw [if_pos (Xh n1)]
   by_cases n2:QW (Zbf d) (Zbf d).length
   ·rw [if_pos (Xh n2)]
    by_cases n3:QW (ZT.Yh d) (ZT.Yh d).length
    ·rw [if_pos (Xh n3),Z5 (by omega),Z5 (by omega),Z5 (by omega),Z5 (by omega)]
     have:=Y3 (l:=ZT.Instances d) (ρ:=(List (List UInt8))×Int×Unit ⊕ ((List (List UInt8))×Int×Unit ⊕ Bool)) (fun k=>((k:Int),Zkf (ZT.Yh d).length (((ZT.Instances d).take k).map XT),())) (step:=fun v=>Vt d v.1 v.2.1) (good:=.inr (.inr (tr (Zfg d))))
      (fun k x hx hk=>by
       have hsx:=Jp h1 hx
       obtain ⟨e1,e2⟩:=(hP.1 k x hx).last hL (Z8 (Zi3 hsx).2)
       simp only [Vt,show (k:Int)<((ZT.Instances d).length:Int) from by omega,if_true,Yd,hx,Option.bind_some]
       rw [e1,Option.bind_some,Zgs e2.1 (by have:=e2.2;omega) (by simp only [List.length_map,List.length_take];omega) (F:=fun o=>some (Sum.inl (IntKind.i64.wrap ((k:Int)+1),o,()))),Y7 hx,List.map_append,Vm (by omega)]
       rfl)
      (by
       simp only [Vt,Int.lt_irrefl,if_false,List.take_length]
       have:=Y3 (l:=ZT.Yo d) (ρ:=Int×List Int×Unit ⊕ ((List (List UInt8))×Int×Unit ⊕ ((List (List UInt8))×Int×Unit ⊕ Bool))) (fun k=>((k:Int),Zkf (ZT.Yh d).length ((ZT.Instances d).map XT++(((ZT.Yo d).take k).filter (fun p=>decide (Ym.Dir p=1))).map Ym.Net),())) (step:=fun v=>Vs d v.1 v.2.1) (good:=.inr (.inr (.inr (tr (Zfg d)))))
        (fun k p hx hk=>by
         have hl:=Zq3 (d:=d) k (ZT.Instances d).length
         rw [List.take_length] at hl
         have hpo:=hP.2 k p hx
         simp only [Vs,show (k:Int)<((ZT.Yo d).length:Int) from by omega,if_true,Yd,hx,Option.bind_some,Zpm hx]
         by_cases d1:Ym.Dir p=1
         ·simp only [d1,if_true]
          rw [Zgs hpo.2.1 (by have:=hpo.2.2;omega) (by omega) (F:=fun o=>some (Sum.inl (IntKind.i64.wrap ((k:Int)+1),o,()))),Vm (by omega)]
         ·simp only [d1,if_false]
          rw [Vm (by omega)])
        (by
         simp only [Vs,Int.lt_irrefl,if_false,List.take_length]
         rw [Jk (l:=Zkf (ZT.Yh d).length ((ZT.Instances d).map XT++((ZT.Yo d).filter (fun p=>decide (Ym.Dir p=1))).map Ym.Net)) (show List.length _≤_ by rw [ZfE];omega) (fun _ x=>x=1) (bad:=.inr (.inr (.inr (.inr false)))) (good:=.inr (.inr (.inr (.inr true))))
          (fun k x hx hk _=>by
           simp only [ZbQ,show (k:Int)<((Zkf (ZT.Yh d).length ((ZT.Instances d).map XT++((ZT.Yo d).filter (fun p=>decide (Ym.Dir p=1))).map Ym.Net)).length:Int) from by omega,if_true,Yd,hx,Option.bind_some]
           constructor
           ·intro hh;rw [if_pos hh]
           ·intro hh;rw [if_neg hh])
          (fun _=>by simp only [ZbQ,Int.lt_irrefl,if_false])]
         congr 1
         have e:Zff (Zkf (ZT.Yh d).length ((ZT.Instances d).map XT++((ZT.Yo d).filter (fun p=>decide (Ym.Dir p=1))).map Ym.Net)) (fun _ x=>x=1)↔Zfg d:=by
          rw [Zc8];exact Iff.rfl
         by_cases hh:Zfg d
         ·rw [QL (e.2 hh),Xh hh]
         ·rw [X8 (fun q=>hh (e.1 q)),YL hh])
       refine (show Yc (fun v=>Vs d v.1 v.2.1) ((0:Int),Zkf (ZT.Yh d).length ((ZT.Instances d).map XT),())=_ from (by simpa using this)).trans ?_
       rfl)
     rw [List.take_zero,List.map_nil,Zm7] at this
     refine (show Yc (fun v=>Vt d v.1 v.2.1) ((0:Int),List.replicate (ZT.Yh d).length 0,())=_ from this).trans ?_
     congr 3
     exact Vd ⟨fun q=>⟨⟨n1,n2,n3⟩,q⟩,fun q=>q.2⟩
    ·rw [if_neg (by rw [YL n3];simp),YL (fun q=>n3 q.1.2.2)]
   ·rw [if_neg (by rw [YL n2];simp),YL (fun q=>n2 q.1.2.1)]
  ·rw [if_neg (by rw [YL n1];simp),YL (fun q=>n1 q.1.1)]
 ·unfold Qr Zif
  rw [Zc8,Zc8]
  constructor
  ·rintro ⟨q1,q2,q3,q4,⟨q5,q6⟩,⟨q7,q8,q9⟩,q10⟩
   exact ⟨q1,⟨by omega,by omega,by omega,q7,q9,q8⟩,q5,q6,q10⟩
  ·rintro ⟨q1,⟨q2,q3,q4,q7,q9,q8⟩,q5,q6,q10⟩
   exact ⟨q1,by omega,by omega,by omega,⟨q5,q6⟩,⟨q7,q8,q9⟩,q10⟩
end Go.Proofs.YtdabmnfkcnkkbaaGreatDoor
/-
  Plain laws: places, sinks, wires.
-/
namespace Go.Proofs.YtdabmnfkcnkkbaaGreatDoor
set_option linter.unusedVariables false
set_option linter.unusedSimpArgs false
open Go Go.Sx
def cat {α β:Type} (f:Nat→α→List β):Nat→List α→List β
 | _,[]=>[]
 | k,x::r=>f k x++cat f (k+1) r
theorem ZcN {α β:Type} (f:Nat→α→List β):∀ (l r:List α) (m:Nat),cat f m (l++r)=cat f m l++cat f (m+l.length) r
 | [],r,m=>by simp [cat]
 | x::l,r,m=>by
  simp only [List.cons_append,cat,List.length_cons,ZcN f l r,List.append_assoc]
  rw [show m+1+l.length=m+(l.length+1) by omega]
theorem ZfD {α β:Type} {f:Nat→α→List β} {l:List α} {k:Nat} {x:α} (hx:l[k]?=some x):cat f 0 (l.take (k+1))=cat f 0 (l.take k)++f k x:=by
 have hk:=(List.getElem?_eq_some_iff.1 hx).1
 rw [Y7 hx,ZcN]
 simp only [cat,Nat.zero_add,List.length_take,List.append_nil]
 rw [show min k l.length=k by omega]
theorem ZgD {α β:Type} {f:Nat→α→List β} {y:β}:∀ {l:List α} {m:Nat},y∈cat f m l↔∃ (k:Nat) (x:α),l[k]?=some x∧y∈f (m+k) x
 | [],m=>by simp [cat]
 | z::r,m=>by
  simp only [cat,List.mem_append,ZgD (l:=r)]
  constructor
  ·rintro (h | ⟨k,x,h1,h2⟩)
   ·exact ⟨0,z,rfl,h⟩
   ·exact ⟨k+1,x,by simpa using h1,by rw [show m+(k+1)=m+1+k by omega];exact h2⟩
  ·rintro ⟨k,x,h1,h2⟩
   cases k with
   | zero=>simp at h1;subst h1;exact .inl h2
   | succ k=>exact .inr ⟨k,x,by simpa using h1,by rw [show m+1+k=m+(k+1) by omega];exact h2⟩
theorem Zgp {α β:Type} {f:Nat→α→List β} {c:Nat}:∀ {l:List α} {m:Nat},(∀ k,∀ x∈l,(f k x).length≤c)→(cat f m l).length≤c*l.length
 | [],m,_=>by simp [cat]
 | z::r,m,h=>by
  simp only [cat,List.length_append,List.length_cons]
  have h1:=h m z (by simp)
  have h2:=Zgp (f:=f) (l:=r) (m:=m+1) (fun k x hx=>h k x (by simp [hx]))
  rw [Nat.mul_add];omega
theorem J2 {α β ρ:Type} {l:List α} (f:Nat→α→List β) (acc:List β) {step:List β×Int×Unit→Option ((List β×Int×Unit) ⊕ ρ)} {good:ρ}
  (hs:∀ (k:Nat) (x:α),l[k]?=some x→k<l.length→step (acc++cat f 0 (l.take k),(k:Int),())=some (.inl ((acc++cat f 0 (l.take k))++f k x,((k+1:Nat):Int),())))
  (hx:step (acc++cat f 0 l,(l.length:Int),())=some (.inr good)):Yc step (acc,(0:Int),())=some good:=by
 have:=Y3 (l:=l) (ρ:=ρ) (fun k=>(acc++cat f 0 (l.take k),(k:Int),())) (step:=step) (good:=good) (fun k x hx hk=>by
  rw [hs k x hx hk,ZfD hx,List.append_assoc]) (by simp only [List.take_length];exact hx)
 simpa [cat] using this
abbrev Pl:=Int×Int×Int×Bool×Unit
def Qi (i:Nat) (x:ZW):List Pl:=cat (fun j n=>[((i:Int),(j:Int),n,decide ((j:Int)=IntKind.i64.wrap (((ZW.Yh x).length:Int)-1)),())]) 0 (ZW.Yh x)
def Zdw (j:Nat) (p:Ym):List Pl:=[((-1:Int),(j:Int),Ym.Net p,decide (Ym.Dir p=1),())]
def places (d:ZT):List Pl:=cat Qi 0 (ZT.Instances d)++cat Zdw 0 (ZT.Yo d)
theorem Zp5 (i:Nat) (x:ZW):(Qi i x).length≤(ZW.Yh x).length:=by
 have:=Zgp (f:=fun j n=>[((i:Int),(j:Int),n,decide ((j:Int)=IntKind.i64.wrap (((ZW.Yh x).length:Int)-1)),())]) (c:=1) (l:=ZW.Yh x) (m:=0) (fun _ _ _=>by simp)
 simpa [Qi] using this
structure Few (d:ZT):Prop where
 insts:(ZT.Instances d).length≤14
 ports:(ZT.Yo d).length≤8
 nets:∀ x∈ZT.Instances d,(ZW.Yh x).length≤5
theorem Qr.few {a:Z7} {d:ZT} (h:Qr a d):Few d:=by
 refine ⟨h.2.1.1,h.2.1.2.2.1,fun x hx=>?_⟩
 obtain ⟨_,⟨c,hc,hn⟩,_⟩:=h.2.2.1 x hx
 have:=(h.1.2.1 c (List.mem_of_getElem? hc)).2.1.2.1
 omega
theorem Zdr {d:ZT} (h:Few d) (k:Nat):(cat Qi 0 ((ZT.Instances d).take k)).length≤70:=by
 have:=Zgp (f:=Qi) (c:=5) (l:=(ZT.Instances d).take k) (m:=0) (fun i x hx=>by
  have h1:=Zp5 i x
  have h2:=h.nets x (List.mem_of_mem_take hx)
  omega)
 have h1:=h.insts
 rw [List.length_take] at this
 omega
theorem Zgq {d:ZT} (h:Few d) (k:Nat):(cat Zdw 0 ((ZT.Yo d).take k)).length≤8:=by
 have:=Zgp (f:=Zdw) (c:=1) (l:=(ZT.Yo d).take k) (m:=0) (fun i x hx=>by simp [Zdw])
 have h1:=h.ports
 rw [List.length_take] at this
 omega
theorem Qn {d:ZT} (h:Few d):(places d).length≤78:=by
 have h1:=Zdr h (ZT.Instances d).length
 have h2:=Zgq h (ZT.Yo d).length
 rw [List.take_length] at h1 h2
 unfold places
 rw [List.length_append];omega
theorem YO (d:ZT) (h:Few d):YC d=some (places d):=by
 have h1:=h.insts
 have h2:=h.ports
 unfold YC
 refine J2 (l:=ZT.Instances d) Qi [] (fun k x hx hk=>?_) ?_
 ·have hn:=h.nets x (List.mem_of_getElem? hx)
  have hl:=Zdr h k
  simp only [List.nil_append,Jg,show (k:Int)<((ZT.Instances d).length:Int) from by omega,if_true,Yd,hx,Option.bind_some]
  refine J2 (l:=ZW.Yh x) (fun j n=>[((k:Int),(j:Int),n,decide ((j:Int)=IntKind.i64.wrap (((ZW.Yh x).length:Int)-1)),())]) _ (fun j n hj hk'=>?_) ?_
  ·have hl2:=Zgp (f:=fun j n=>[((k:Int),(j:Int),n,decide ((j:Int)=IntKind.i64.wrap (((ZW.Yh x).length:Int)-1)),())]) (c:=1) (l:=(ZW.Yh x).take j) (m:=0) (fun _ _ _=>by simp)
   rw [List.length_take] at hl2
   simp only [Je,show (j:Int)<((ZW.Yh x).length:Int) from by omega,if_true,Yd,hj,Option.bind_some]
   rw [Z5 (by rw [List.length_append,List.length_singleton];omega),Vm (by omega)]
  ·simp only [Je,Int.lt_irrefl,if_false]
   rw [Vm (by omega)];rfl
 ·have hl:=Zdr h (ZT.Instances d).length
  rw [List.take_length] at hl
  simp only [List.nil_append,Jg,Int.lt_irrefl,if_false]
  refine J2 (l:=ZT.Yo d) Zdw _ (fun j p hj hk'=>?_) ?_
  ·have hl2:=Zgq h j
   simp only [Jf,show (j:Int)<((ZT.Yo d).length:Int) from by omega,if_true,Yd,hj,Option.bind_some]
   rw [Z5 (by rw [List.length_append,List.length_singleton];omega),Vm (by omega)];rfl
  ·simp only [Jf,Int.lt_irrefl,if_false];rfl
theorem XJ (d:ZT) (h:Few d):XB d=some (places d):=by
 have h1:=h.insts
 have h2:=h.ports
 unfold XB
 refine J2 (l:=ZT.Instances d) Qi [] (fun k x hx hk=>?_) ?_
 ·have hn:=h.nets x (List.mem_of_getElem? hx)
  have hl:=Zdr h k
  simp only [List.nil_append,Zbl,show (k:Int)<((ZT.Instances d).length:Int) from by omega,if_true,Yd,hx,Option.bind_some]
  refine J2 (l:=ZW.Yh x) (fun j n=>[((k:Int),(j:Int),n,decide ((j:Int)=IntKind.i64.wrap (((ZW.Yh x).length:Int)-1)),())]) _ (fun j n hj hk'=>?_) ?_
  ·have hl2:=Zgp (f:=fun j n=>[((k:Int),(j:Int),n,decide ((j:Int)=IntKind.i64.wrap (((ZW.Yh x).length:Int)-1)),())]) (c:=1) (l:=(ZW.Yh x).take j) (m:=0) (fun _ _ _=>by simp)
   rw [List.length_take] at hl2
   simp only [Zbj,show (j:Int)<((ZW.Yh x).length:Int) from by omega,if_true,Yd,hj,Option.bind_some]
   rw [Z5 (by rw [List.length_append,List.length_singleton];omega),Vm (by omega)]
  ·simp only [Zbj,Int.lt_irrefl,if_false]
   rw [Vm (by omega)];rfl
 ·have hl:=Zdr h (ZT.Instances d).length
  rw [List.take_length] at hl
  simp only [List.nil_append,Zbl,Int.lt_irrefl,if_false]
  refine J2 (l:=ZT.Yo d) Zdw _ (fun j p hj hk'=>?_) ?_
  ·have hl2:=Zgq h j
   simp only [Zbk,show (j:Int)<((ZT.Yo d).length:Int) from by omega,if_true,Yd,hj,Option.bind_some]
   rw [Z5 (by rw [List.length_append,List.length_singleton];omega),Vm (by omega)];rfl
  ·simp only [Zbk,Int.lt_irrefl,if_false];rfl
def JO (net:Int) (i:Nat) (x:Pl):List Int:=if x.2.2.1=net then (if x.2.2.2.1=true then [] else [(i:Int)]) else []
def sinks (d:ZT) (net:Int):List Int:=cat (JO net) 0 (places d)
theorem Zew (net:Int) (l:List Pl) (m:Nat):(cat (JO net) m l).length≤l.length:=by
 have:=Zgp (f:=JO net) (c:=1) (l:=l) (m:=m) (fun i x _=>by
  unfold JO;split
  ·split<;>simp
  ·simp)
 omega
theorem Zha (d:ZT) (net:Int) (h:Few d):ZaU d net=some (sinks d net):=by
 have hp:=Qn h
 unfold ZaU
 rw [YO d h,Option.bind_some]
 refine J2 (l:=places d) (JO net) [] (fun k x hx hk=>?_) ?_
 ·have hl:=Zew net ((places d).take k) 0
  rw [List.length_take] at hl
  simp only [List.nil_append,JG,show (k:Int)<((places d).length:Int) from by omega,if_true,Yd,hx,Option.bind_some,JO,Vm (show k≤1048576 by omega)]
  split
  ·split
   ·rw [List.append_nil]
   ·rw [Z5 (by
     show (List.length _+1)*8≤_
     have:(cat (JO net) 0 ((places d).take k)).length≤78:=by omega
     omega)]
  ·rw [List.append_nil]
 ·simp only [List.nil_append,JG,Int.lt_irrefl,if_false];rfl
theorem VI (d:ZT) (net:Int) (h:Few d):QE d net=some (sinks d net):=by
 have hp:=Qn h
 unfold QE
 rw [XJ d h,Option.bind_some]
 refine J2 (l:=places d) (JO net) [] (fun k x hx hk=>?_) ?_
 ·have hl:=Zew net ((places d).take k) 0
  rw [List.length_take] at hl
  simp only [List.nil_append,ZbZ,show (k:Int)<((places d).length:Int) from by omega,if_true,Yd,hx,Option.bind_some,JO,Vm (show k≤1048576 by omega)]
  split
  ·split
   ·rw [List.append_nil]
   ·rw [Z5 (by
     show (List.length _+1)*8≤_
     have:(cat (JO net) 0 ((places d).take k)).length≤78:=by omega
     omega)]
  ·rw [List.append_nil]
 ·simp only [List.nil_append,ZbZ,Int.lt_irrefl,if_false];rfl
theorem ZlQ (net:Int):∀ (l:List Pl) (m:Nat),(cat (JO net) m l).length=((l.filter (fun x=>!x.2.2.2.1)).map (fun x=>x.2.2.1)).countP (fun y=>decide (y=net))
 | [],m=>by simp [cat]
 | x::r,m=>by
  simp only [cat,List.length_append,ZlQ net r,JO]
  obtain ⟨a,b,n,dr,u⟩:=x
  cases dr
  ·by_cases e:n=net
   ·simp [e,Nat.add_comm]
   ·simp [e]
  ·simp
end Go.Proofs.YtdabmnfkcnkkbaaGreatDoor
/-
  Plain laws: wires, blocks.
-/
namespace Go.Proofs.YtdabmnfkcnkkbaaGreatDoor
set_option linter.unusedVariables false
set_option linter.unusedSimpArgs false
open Go Go.Sx
theorem Zkb {w:Z9} (h:sm Xr w):sm (.sl (.int .i64)) (Z9.Parent w)∧sm (.sl (.int .i64)) (Z9.Res w)∧sm (.sl (.int .i64)) (Z9.Cap w)∧sm (.sl (.int .i64)) (Z9.Ze4 w):=by
 refine ⟨?_,?_,?_,?_⟩
 all_goals first | exact h.1 | exact h.2.1 | exact h.2.2.1 | exact h.2.2.2.1
theorem Zah {b:ZU} (h:sm Xg b):sm Y9 (ZU.Library b)∧sm YQ (ZU.Design b)∧sm (.sl Xr) (ZU.Ye b):=by
 refine ⟨?_,?_,?_⟩
 all_goals first | exact h.1 | exact h.2.1 | exact h.2.2.1 | exact h.2.2.2.1
def ZkT (w:Z9) (k:Nat) (x:Int):Prop:=(k=0→x=-1∧(Z9.Res w)[0]?=some 0)∧(0<k→0≤x∧x≤(k:Int)-1)
def Zar (w:Z9) (s:Int):Prop :=
 (1≤(Z9.Parent w).length∧(Z9.Parent w).length≤8)∧(Z9.Res w).length=(Z9.Parent w).length∧(Z9.Cap w).length=(Z9.Parent w).length∧((Z9.Ze4 w).length:Int)=s∧
 Zff (Z9.Parent w) (ZkT w)∧Zgl (Z9.Res w) 0 1000∧Zgl (Z9.Cap w) 0 500∧Zgl (Z9.Ze4 w) 0 (((Z9.Parent w).length:Int)-1)
theorem Zgm (l:List Int) (lo hi:Int) (hl:l.length≤1048576):Qc l lo hi=some (tr (Zgl l lo hi)):=by
 rw [ZaV l lo hi (by omega)]
 exact Zch (Zih _ _ _)
theorem ZhR (w:Z9) (hw:sm Xr w) (h1:1≤(Z9.Parent w).length) (h2:(Z9.Res w).length=(Z9.Parent w).length):ZbA w=some (tr (Zff (Z9.Parent w) (ZkT w))):=by
 obtain ⟨a1,a2,a3,a4⟩:=Zkb hw
 have s1:=Z8 a1
 unfold ZbA
 have hr:(Z9.Res w)[0]?=some (Z9.Res w)[0]:=List.getElem?_eq_getElem (by omega)
 rw [Jk (XK a1) (ZkT w) (bad:=false) (good:=true)
  (fun k x hx hk _=>by
   simp only [Zad,show (k:Int)<((Z9.Parent w).length:Int) from by omega,if_true,Yd,hx,Option.bind_some]
   unfold ZkT
   by_cases hk0:k=0
   ·subst hk0
    rw [if_pos (by rfl),show atI (Z9.Res w) 0=some (Z9.Res w)[0] from hr,hr]
    simp only [Option.bind_some,Option.some.injEq]
    rw [if_neg (show ¬(0:Int)<((0:Nat):Int) by omega)]
    constructor
    ·intro hh
     obtain ⟨q1,q2⟩:=hh.1 trivial
     rw [if_pos q1,if_pos q2]
    ·intro hh
     by_cases q1:x=-1
     ·rw [if_pos q1,if_neg (fun q2=>hh ⟨fun _=>⟨q1,q2⟩,fun h=>by omega⟩)]
     ·rw [if_neg q1]
   ·rw [if_neg (by omega),if_pos (by omega),JZ,Option.bind_some,V4 (by omega) (by omega)]
    constructor
    ·intro hh;rw [if_pos (Xh (hh.2 (by omega)))]
    ·intro hh;rw [if_neg (fun q=>hh ⟨fun h=>absurd h hk0,fun _=>(QA _).1 q⟩)])
  (fun _=>by simp only [Zad,Int.lt_irrefl,if_false]),ZlP]
theorem Zhu (w:Z9) (s:Int) (hw:sm Xr w):Zek w s=some (tr (Zar w s)):=by
 obtain ⟨a1,a2,a3,a4⟩:=Zkb hw
 have s1:=Z8 a1
 have s2:=Z8 a2
 have s3:=Z8 a3
 have s4:=Z8 a4
 unfold Zek
 simp only [V9,Option.bind_some,V4 (show (-9223372036854775808:Int)≤((Z9.Parent w).length:Int)-1 by omega) (by omega)]
 refine VA (Xz (JZ _ _ _) (fun q1=>Y2 (fun q2=>Y2 (fun q3=>Xz (ZhR w hw (by omega) (by omega)) (fun q4=>Xz (Zgm _ _ _ s2) (fun q5=>Xz (Zgm _ _ _ s3) (fun q6=>Y2 (fun q7=>Zcc (Zgm _ _ _ s4))))))))) ?_
 unfold Zar
 constructor
 ·rintro ⟨q1,q2,q3,q4,q5,q6,q7,q8⟩
  exact ⟨⟨by omega,by omega⟩,by omega,by omega,q7,q4,q5,q6,q8⟩
 ·rintro ⟨q1,q2,q3,q7,q4,q5,q6,q8⟩
  exact ⟨by omega,by omega,by omega,q4,q5,q6,q7,q8⟩
theorem Zpg {l:List Int} {lo hi:Int}:Zgl l lo hi↔∀ (k:Nat) (x:Int),l[k]?=some x→lo≤x∧x≤hi:=by
 unfold Zgl
 constructor
 ·intro h k x hx;exact h x (List.mem_of_getElem? hx)
 ·intro h x hx
  obtain ⟨k,hk⟩:=List.mem_iff_getElem?.1 hx
  exact h k x hk
theorem ZhG (w:Z9) (s:Int) (hw:sm Xr w):Zex w s=some (tr (Zar w s)):=by
 obtain ⟨a1,a2,a3,a4⟩:=Zkb hw
 have s1:=Z8 a1
 have s2:=Z8 a2
 have s3:=Z8 a3
 have s4:=Z8 a4
 have e1:IntKind.i64.wrap (((Z9.Parent w).length:Int)-1)=((Z9.Parent w).length:Int)-1:=V4 (by omega) (by omega)
 unfold Zex
 refine VA (ZfB (fun q1=>ZfB (fun q2=>Y2 (fun q3=>Y2 (fun q4=>Y2 (fun q5=>?_)))))) ?_
  (P:=¬((Z9.Parent w).length:Int)<1∧¬(8:Int)<((Z9.Parent w).length:Int)∧((Z9.Res w).length:Int)=((Z9.Parent w).length:Int)∧((Z9.Cap w).length:Int)=((Z9.Parent w).length:Int)∧((Z9.Ze4 w).length:Int)=s∧
   (Zff (Z9.Parent w) (fun k x=>(∀ c,(Z9.Cap w)[k]?=some c→0≤c∧c≤500)∧(∀ r,(Z9.Res w)[k]?=some r→0≤r∧r≤1000)∧ZkT w k x)∧Zgl (Z9.Ze4 w) 0 (((Z9.Parent w).length:Int)-1)))
 ·rw [Jk (XK a1) (fun k x=>(∀ c,(Z9.Cap w)[k]?=some c→0≤c∧c≤500)∧(∀ r,(Z9.Res w)[k]?=some r→0≤r∧r≤1000)∧ZkT w k x) (bad:=false) (good:=tr (Zgl (Z9.Ze4 w) 0 (((Z9.Parent w).length:Int)-1)))
   (fun k x hx hk _=>by
    have hc:(Z9.Cap w)[k]?=some (Z9.Cap w)[k]:=List.getElem?_eq_getElem (by omega)
    have hr:(Z9.Res w)[k]?=some (Z9.Res w)[k]:=List.getElem?_eq_getElem (by omega)
    simp only [Zc4,show (k:Int)<((Z9.Parent w).length:Int) from by omega,if_true,Yd,hc,hr,hx,Option.bind_some,JJ,Option.some.injEq,forall_eq']
    generalize (Z9.Cap w)[k]=c at hc
    generalize (Z9.Res w)[k]=r at hr
    by_cases qc:0≤c∧c≤500
    ·rw [if_pos (Xh qc)]
     by_cases qr:0≤r∧r≤1000
     ·rw [if_pos (Xh qr)]
      unfold ZkT
      by_cases hk0:k=0
      ·subst hk0
       rw [if_pos (by rfl),hr]
       simp only [Option.some.injEq]
       rw [if_neg (show ¬(0:Int)<((0:Nat):Int) by omega)]
       constructor
       ·rintro ⟨_,_,hh⟩
        obtain ⟨q1,q2⟩:=hh.1 trivial
        rw [if_pos q1,if_pos q2]
       ·intro hh
        by_cases q1:x=-1
        ·rw [if_pos q1,if_neg (fun q2=>hh ⟨qc,qr,fun _=>⟨q1,q2⟩,fun h=>by omega⟩)]
        ·rw [if_neg q1]
      ·rw [if_neg (by omega),if_pos (by omega),V4 (show (-9223372036854775808:Int)≤(k:Int)-1 by omega) (by omega)]
       constructor
       ·intro hh;rw [if_pos (Xh (hh.2.2.2 (by omega)))]
       ·intro hh;rw [if_neg (fun q=>hh ⟨qc,qr,fun h=>absurd h hk0,fun _=>(QA _).1 q⟩)]
     ·rw [if_neg (fun q=>qr ((QA _).1 q))]
      exact ⟨fun hh=>absurd hh.2.1 qr,fun _=>rfl⟩
    ·rw [if_neg (fun q=>qc ((QA _).1 q))]
     exact ⟨fun hh=>absurd hh.1 qc,fun _=>rfl⟩)
   (fun _=>by
    simp only [Zc4,Int.lt_irrefl,if_false]
    rw [Jk (XK a4) (fun _ x=>0≤x∧x≤((Z9.Parent w).length:Int)-1) (bad:=.inr false) (good:=.inr true)
     (fun k x hx hk _=>by
      simp only [Zc3,show (k:Int)<((Z9.Ze4 w).length:Int) from by omega,if_true,Yd,hx,Option.bind_some,JJ,e1]
      constructor
      ·intro hh;rw [if_pos (Xh hh)]
      ·intro hh;rw [if_neg (fun q=>hh ((QA _).1 q))])
     (fun _=>by simp only [Zc3,Int.lt_irrefl,if_false])]
    congr 1
    have e:Zff (Z9.Ze4 w) (fun _ x=>0≤x∧x≤((Z9.Parent w).length:Int)-1)↔Zgl (Z9.Ze4 w) 0 (((Z9.Parent w).length:Int)-1):=Zc8
    by_cases hh:Zgl (Z9.Ze4 w) 0 (((Z9.Parent w).length:Int)-1)
    ·rw [QL (e.2 hh),Xh hh]
    ·rw [X8 (fun q=>hh (e.1 q)),YL hh]),ZiY]
 ·unfold Zar
  rw [Zpg (l:=Z9.Res w),Zpg (l:=Z9.Cap w)]
  constructor
  ·rintro ⟨q1,q2,q3,q4,q5,q6,q7⟩
   refine ⟨⟨by omega,by omega⟩,by omega,by omega,q5,fun k x hx=>(q6 k x hx).2.2,fun k r hr=>?_,fun k c hc=>?_,q7⟩
   ·have hk:=(List.getElem?_eq_some_iff.1 hr).1
    exact (q6 k _ (List.getElem?_eq_getElem (by omega))).2.1 r hr
   ·have hk:=(List.getElem?_eq_some_iff.1 hc).1
    exact (q6 k _ (List.getElem?_eq_getElem (by omega))).1 c hc
  ·rintro ⟨q1,q2,q3,q5,q6,q7,q8,q9⟩
   exact ⟨by omega,by omega,by omega,by omega,q5,fun k x hx=>⟨fun c hc=>q8 k c hc,fun r hr=>q7 k r hr,q6 k x hx⟩,q9⟩
def Zi9 (b:ZU):Prop :=
 Qr (ZU.Library b) (ZU.Design b)∧(ZU.Ye b).length=(ZT.Yh (ZU.Design b)).length∧Zff (ZU.Ye b) (fun k w=>Zar w ((sinks (ZU.Design b) (k:Int)).length:Int))
theorem Jm {a:Z7} {d:ZT} (h:Qr a d) {x:Pl} (hx:x∈places d):Zab d x.2.2.1:=by
 unfold places at hx
 rcases List.mem_append.1 hx with hx | hx
 ·obtain ⟨i,z,hi,hz⟩:=ZgD.1 hx
  unfold Qi at hz
  obtain ⟨j,n,hj,hn⟩:=ZgD.1 hz
  simp only [List.mem_singleton] at hn
  subst hn
  exact (h.2.2.1 z (List.mem_of_getElem? hi)).2.2 n (List.mem_of_getElem? hj)
 ·obtain ⟨j,p,hj,hp⟩:=ZgD.1 hx
  simp only [Zdw,List.mem_singleton] at hp
  subst hp
  exact (h.2.2.2.1 p (List.mem_of_getElem? hj)).2
theorem ZgL (b:ZU) (hb:sm Xg b):Ze0 b=some (tr (Zi9 b)):=by
 obtain ⟨a1,a2,a3⟩:=Zah hb
 have s3:=Z8 a3
 unfold Ze0
 refine VA (Xz (ZkC _ _ a1 a2) (fun hD=>Y2 (fun q1=>?_))) ?_
  (P:=Qr (ZU.Library b) (ZU.Design b)∧((ZU.Ye b).length:Int)=((ZT.Yh (ZU.Design b)).length:Int)∧Zff (ZU.Ye b) (fun k w=>Zar w ((sinks (ZU.Design b) (k:Int)).length:Int)))
 ·rw [Jk (XK a3) (fun k w=>Zar w ((sinks (ZU.Design b) (k:Int)).length:Int)) (bad:=false) (good:=true)
   (fun k w hx hk _=>by
    simp only [Zcy,show (k:Int)<((ZU.Ye b).length:Int) from by omega,if_true,Yd,hx,Option.bind_some,VI _ _ hD.few,ZhG w _ (Jp a3 hx)]
    constructor
    ·intro hh;rw [if_pos (Xh hh)]
    ·intro hh;rw [if_neg (fun q=>hh ((QA _).1 q))])
   (fun _=>by simp only [Zcy,Int.lt_irrefl,if_false]),ZlP]
 ·unfold Zi9
  rw [show ((ZU.Ye b).length:Int)=((ZT.Yh (ZU.Design b)).length:Int)↔(ZU.Ye b).length=(ZT.Yh (ZU.Design b)).length from by omega]
theorem Zp9 {l:List Pl} {k:Nat} {x:Pl} (hx:l[k]?=some x) :
  (((l.take (k+1)).filter (fun x=>!x.2.2.2.1)).map (fun x=>x.2.2.1))=if x.2.2.2.1=true then (((l.take k).filter (fun x=>!x.2.2.2.1)).map (fun x=>x.2.2.1)) else (((l.take k).filter (fun x=>!x.2.2.2.1)).map (fun x=>x.2.2.1))++[x.2.2.1]:=by
 rw [Y7 hx,List.filter_append,List.map_append]
 by_cases h:x.2.2.2.1=true
 ·rw [if_pos h];simp [h]
 ·rw [if_neg h];simp [h]
theorem Zk6 (b:ZU) (hb:sm Xg b):ZeF b=some (tr (Zi9 b)):=by
 obtain ⟨a1,a2,a3⟩:=Zah hb
 have s3:=Z8 a3
 unfold ZeF
 refine VA (Xz (Zki _ _ a1 a2) (fun hD=>Y2 (fun q1=>?_))) ?_
  (P:=Qr (ZU.Library b) (ZU.Design b)∧((ZU.Ye b).length:Int)=((ZT.Yh (ZU.Design b)).length:Int)∧Zff (ZU.Ye b) (fun k w=>Zar w ((sinks (ZU.Design b) (k:Int)).length:Int)))
 ·rw [Z5 (by omega),Z5 (by omega),Z5 (by omega),Z5 (by omega),YO _ hD.few,Option.bind_some]
  have hpl:=Qn hD.few
  have:=Y3 (l:=places (ZU.Design b)) (ρ:=Bool) (fun k=>((k:Int),Zkf (ZU.Ye b).length ((((places (ZU.Design b)).take k).filter (fun x=>!x.2.2.2.1)).map (fun x=>x.2.2.1)),())) (step:=fun v=>Zak b (places (ZU.Design b)) v.1 v.2.1) (good:=tr (Zff (ZU.Ye b) (fun k w=>Zar w ((sinks (ZU.Design b) (k:Int)).length:Int))))
   (fun k x hx hk=>by
    have hn:=Jm hD (List.mem_of_getElem? hx)
    have hl1:=List.length_filter_le (fun x:Pl=>!x.2.2.2.1) ((places (ZU.Design b)).take k)
    rw [List.length_take] at hl1
    simp only [Zak,show (k:Int)<((places (ZU.Design b)).length:Int) from by omega,if_true,Yd,hx,Option.bind_some,Zp9 hx]
    by_cases hd:x.2.2.2.1=true
    ·rw [if_pos hd,if_pos hd,Vm (by omega)]
    ·rw [if_neg hd,if_neg hd,Zgs hn.1 (by have:=hn.2;show x.2.2.1<_;omega) (by rw [List.length_map];omega) (F:=fun o=>some (Sum.inl (IntKind.i64.wrap ((k:Int)+1),o,()))),Vm (by omega)])
   (by
    simp only [Zak,Int.lt_irrefl,if_false,List.take_length]
    rw [Jk (XK a3) (fun k w=>Zar w ((sinks (ZU.Design b) (k:Int)).length:Int)) (bad:=.inr false) (good:=.inr true)
     (fun k w hx hk _=>by
      have hc:(sinks (ZU.Design b) (k:Int)).length=_:=ZlQ (k:Int) (places (ZU.Design b)) 0
      simp only [Zcm,show (k:Int)<((ZU.Ye b).length:Int) from by omega,if_true,Yd,hx,Option.bind_some]
      rw [ZgT hk,Option.bind_some,Zhu w _ (Jp a3 hx),Option.bind_some,hc]
      constructor
      ·intro hh;rw [if_pos (Xh hh)]
      ·intro hh;rw [if_neg (fun q=>hh ((QA _).1 q))])
     (fun _=>by simp only [Zcm,Int.lt_irrefl,if_false])]
    congr 1
    by_cases hh:Zff (ZU.Ye b) (fun k w=>Zar w ((sinks (ZU.Design b) (k:Int)).length:Int))
    ·rw [QL hh,Xh hh]
    ·rw [X8 hh,YL hh])
  rw [List.take_zero,List.filter_nil,List.map_nil,Zm7] at this
  exact this
 ·unfold Zi9
  rw [show ((ZU.Ye b).length:Int)=((ZT.Yh (ZU.Design b)).length:Int)↔(ZU.Ye b).length=(ZT.Yh (ZU.Design b)).length from by omega]
structure Zap (b:ZU):Prop where
 ok:Zi9 b
 sm:sm Xg b
end Go.Proofs.YtdabmnfkcnkkbaaGreatDoor
