/-
  Plain laws: designs.
-/
import Derived.Test.YtjfbeebdhmebpaaGreatDoorLB
namespace Go.Proofs.YtjfbeebdhmebpaaGreatDoor
set_option linter.unusedVariables false
set_option linter.unusedSimpArgs false
open Go Go.Sx
theorem ZeQ {d:Zb} (h:sm Yv d):sm (.sl Yn) (Zb.Instances d)∧sm (.sl Za4) (Zb.YB d)∧sm (.sl .str) (Zb.Yb d):=by
 refine ⟨?_,?_,?_⟩
 ·first | exact h.1 | exact h.2.1 | exact h.2.2.1 | exact h.2.2.2.1
 ·first | exact h.1 | exact h.2.1 | exact h.2.2.1 | exact h.2.2.2.1
 ·first | exact h.1 | exact h.2.1 | exact h.2.2.1 | exact h.2.2.2.1
theorem ZjX {x:Zd} (h:sm Yn x):sm .str (Zd.Name x)∧sm (.sl (.int .i64)) (Zd.Yb x):=by
 refine ⟨?_,?_⟩
 ·first | exact h.1 | exact h.2.1 | exact h.2.2.1 | exact h.2.2.2.1
 ·first | exact h.1 | exact h.2.1 | exact h.2.2.1 | exact h.2.2.2.1
theorem Zr8 {x:ZN} (h:sm Za4 x):sm .str (ZN.Name x):=by
 first | exact h.1 | exact h.2.1 | exact h.2.2.1 | exact h.2.2.2.1
theorem Zdm (d:Zb) (h:sm Yv d):Qd d=some (tr (ZfM d)):=by
 obtain ⟨h1,h2,h3⟩:=ZeQ h
 have s1:=Zv h1
 have s2:=Zv h2
 have s3:=Zv h3
 unfold Qd
 refine gather (l:=Zb.Instances d) s1 Zd.Name (fun k x o hx hk ho=>?_) ?_
 ·simp only [XW,hk,if_true,Zo,hx,Bq]
 simp only [XW,Int.lt_irrefl,if_false]
 have hi:(ZbF d).length=(Zb.Instances d).length:=by simp [ZbF]
 have hp:(J7 d).length=(Zb.YB d).length:=by simp [J7]
 refine gather (l:=Zb.YB d) s2 ZN.Name (fun k x o hx hk ho=>?_) ?_
 ·simp only [XV,hk,if_true,Zo,hx,Bq]
 simp only [XV,Int.lt_irrefl,if_false]
 rw [show List.map ZN.Name (Zb.YB d)=J7 d from rfl,show List.map Zd.Name (Zb.Instances d)=ZbF d from rfl]
 simp only [hi,hp,QG _ (show (ZbF d).length≤4611686018427387904 by omega),QG _ (show (J7 d).length≤4611686018427387904 by omega),QG _ (show (Zb.Yb d).length≤4611686018427387904 by omega),Bq]
 unfold ZfM
 rw [hi,hp]
 by_cases a:(Zb.Instances d).length≤14
 ·rw [if_pos (by omega)]
  by_cases b:(Zb.Yb d).length≤30
  ·rw [if_pos (by omega)]
   by_cases c:(Zb.YB d).length≤8
   ·rw [if_pos (by omega)]
    by_cases e:Qq (ZbF d) (Zb.Instances d).length
    ·rw [if_pos (Z5 e)]
     by_cases f:Qq (Zb.Yb d) (Zb.Yb d).length
     ·rw [if_pos (Z5 f)]
      congr 3
      exact Xu ⟨fun q=>⟨a,b,c,e,f,q⟩,fun q=>q.2.2.2.2.2⟩
     ·rw [if_neg (by rw [ZR f];simp),ZR (fun q=>f q.2.2.2.2.1)]
    ·rw [if_neg (by rw [ZR e];simp),ZR (fun q=>e q.2.2.2.1)]
   ·rw [if_neg (by omega),ZR (fun q=>c q.2.2.1)]
  ·rw [if_neg (by omega),ZR (fun q=>b q.2.1)]
 ·rw [if_neg (by omega),ZR (fun q=>a q.1)]
def Zhr (n:Nat) (s:List Int):List Int:=(List.range n).map (fun (j:Nat)=>((s.countP (fun x=>decide (x=(j:Int))):Nat):Int))
theorem ZeF (n:Nat) (s:List Int):(Zhr n s).length=n:=by simp [Zhr]
theorem Zkc (n:Nat):Zhr n []=List.replicate n 0:=by
 apply List.ext_getElem?
 intro i
 simp only [Zhr,List.countP_nil,List.getElem?_map,List.getElem?_replicate,List.getElem?_range]
 by_cases h:i<n
 ·simp [h]
 ·simp [h]
theorem ZcV {n:Nat} {s:List Int} {j:Nat} (h:j<n):(Zhr n s)[j]?=some ((s.countP (fun x=>decide (x=(j:Int))):Nat):Int):=by
 simp [Zhr,h]
theorem ZqC {n:Nat} {s:List Int} {x:Int} (h0:0≤x) (h1:x<(n:Int)):atI (Zhr n s) x=some ((s.countP (fun y=>decide (y=x)):Nat):Int):=by
 refine Zbh h0 ?_
 rw [ZcV (by omega),show ((x.toNat:Nat):Int)=x by omega]
theorem Zpx {n:Nat} {s:List Int} {x:Int} (h0:0≤x) (h1:x<(n:Int)):List.set (Zhr n s) (Int.toNat x) (((s.countP (fun y=>decide (y=x)):Nat):Int)+1)=Zhr n (s++[x]):=by
 apply List.ext_getElem?
 intro i
 rw [List.getElem?_set]
 by_cases hi:i<n
 ·rw [ZcV hi,ZcV hi,List.countP_append,ZeF]
  by_cases e:x.toNat=i
  ·subst e
   rw [if_pos rfl,if_pos (by omega),show ((x.toNat:Nat):Int)=x by omega]
   simp
  ·rw [if_neg e]
   have:¬x=(i:Int):=by omega
   simp [List.countP_cons,this]
 ·have h1:(Zhr n s)[i]?=none:=by rw [List.getElem?_eq_none];rw [ZeF];omega
  have h2:(Zhr n (s++[x]))[i]?=none:=by rw [List.getElem?_eq_none];rw [ZeF];omega
  rw [h1,h2]
  split
  ·split
   ·rename_i h3;rw [ZeF] at h3;omega
   ·rfl
  ·rfl
theorem Zel {n:Nat} {s:List Int} {x:Int} (h0:0≤x) (h1:x<(n:Int)) (hs:s.length≤1048576000) {τ:Type} (F:List Int→Option τ) :
  ((atI (Zhr n s) x).bind fun y=>F (List.set (Zhr n s) (Int.toNat x) (Wq (y+1))))=F (Zhr n (s++[x])):=by
 have h2:=List.countP_le_length (p:=fun y=>decide (y=x)) (l:=s)
 rw [ZqC h0 h1,Bq,ZdP (by omega) (by omega),Zpx h0 h1]
def Yc (x:Zd):Int:=(Zd.Yb x).getLastD 0
def Zj5 (d:Zb) (n:Int):Prop:=0≤n∧n≤((Zb.Yb d).length:Int)-1
def ZdO (a:Zn) (d:Zb) (x:Zd):Prop :=
 (0≤Zd.Cell x∧Zd.Cell x≤((Zn.Cells a).length:Int)-1)∧(∃ c,(Zn.Cells a)[(Zd.Cell x).toNat]?=some c∧(Zd.Yb x).length=(Zf.Ye c).length)∧∀ n∈Zd.Yb x,Zj5 d n
def Ze6 (d:Zb) (p:ZN):Prop:=(1≤ZN.Dir p∧ZN.Dir p≤2)∧Zj5 d (ZN.Net p)
def ZpH (d:Zb):List Int:=(Zb.Instances d).map Yc++((Zb.YB d).filter (fun p=>decide (ZN.Dir p=1))).map ZN.Net
def ZfN (d:Zb):Prop:=∀ x∈Zhr (Zb.Yb d).length (ZpH d),x=1
def Jb (a:Zn) (d:Zb):Prop:=ZkU a∧ZfM d∧(∀ x∈Zb.Instances d,ZdO a d x)∧(∀ p∈Zb.YB d,Ze6 d p)∧ZfN d
theorem ZdO.last {a:Zn} {d:Zb} {x:Zd} (h:ZdO a d x) (hl:ZkU a) (hsm:(Zd.Yb x).length≤1048576):atI (Zd.Yb x) (Wq (((Zd.Yb x).length:Int)-1))=some (Yc x)∧Zj5 d (Yc x):=by
 obtain ⟨_,⟨c,hc,hn⟩,hall⟩:=h
 have h2:2≤(Zf.Ye c).length:=(hl.2.1 c (List.mem_of_getElem? hc)).2.1.1
 unfold Yc
 cases hN:Zd.Yb x with
 | nil=>rw [hN] at hn;simp at hn;omega
 | cons y r =>
  rw [hN] at hsm
  rw [ZkX hsm (by simp),Zo]
  have e:(y::r)[(y::r).length-1]?=some ((y::r).getLastD 0):=by
   rw [←List.getLast?_eq_getElem?,List.getLastD_eq_getLast?,List.getLast?_cons];rfl
  exact ⟨e,hall _ (by rw [hN];exact List.mem_of_getElem? e)⟩
theorem Zbf (d:Zb) (n:Int) (h:sm Yv d):Xh d n=some (tr (Zj5 d n)):=by
 have s3:=Zv (ZeQ h).2.2
 unfold Xh
 rw [show JX (Zb.Yb d)=some ((Zb.Yb d).length:Int) from rfl,Bq,ZdP (by omega) (by omega)]
 exact ZgD (Vh _ _ _)
theorem Zcy (d:Zb) (a:Zn) (x:Zd) (hd:sm Yv d) (ha:sm YR a) (hx:sm Yn x):XQ d a x=some (tr (ZdO a d x)):=by
 have sa:=Zv (Zp7 ha)
 unfold XQ
 rw [show QZ (Zn.Cells a)=some ((Zn.Cells a).length:Int) from rfl,Bq,ZdP (by omega) (by omega)]
 refine Za8 (P:=(0≤Zd.Cell x∧Zd.Cell x≤((Zn.Cells a).length:Int)-1)∧ZdO a d x) (YC (Vh _ _ _) (fun hw=>?_)) ⟨fun q=>q.2,fun q=>⟨q.1,q⟩⟩
 obtain ⟨c,hc1,hc2⟩:=Zn4 hw.1 (show Zd.Cell x<((Zn.Cells a).length:Int) by omega)
 rw [hc1,Bq]
 refine Za8 (P:=((Zd.Yb x).length:Int)=((Zf.Ye c).length:Int)∧∀ n∈Zd.Yb x,Zj5 d n) (Y0 (fun he=>?_)) ?_
 ·rw [Y3 (YX (ZjX hx).2) (fun n=>!tr (Zj5 d n)) (fun n _=>by
   unfold YI
   show (Xh d n).bind _=_
   rw [Zbf d n hd];rfl),Bq]
  refine Zbd ?_
  rw [Bool.not_eq_true',List.any_eq_false]
  constructor
  ·intro q n hn
   have:=q n hn
   simp only [Bool.not_eq_true',Bool.not_eq_false] at this
   exact (YK _).1 this
  ·intro q n hn
   simp only [Bool.not_eq_true',Bool.not_eq_false]
   exact Z5 (q n hn)
 ·constructor
  ·rintro ⟨q1,q2⟩;exact ⟨hw,⟨c,hc2,by omega⟩,q2⟩
  ·rintro ⟨_,⟨c',q1,q2⟩,q3⟩
   rw [hc2] at q1;injection q1 with q1;subst q1
   exact ⟨by omega,q3⟩
theorem Zmw {d:Zb} {k:Nat} {p:ZN} (hx:(Zb.YB d)[k]?=some p) (s:List Int) :
  s++(((Zb.YB d).take (k+1)).filter (fun p=>decide (ZN.Dir p=1))).map ZN.Net=(if ZN.Dir p=1 then (s++(((Zb.YB d).take k).filter (fun p=>decide (ZN.Dir p=1))).map ZN.Net)++[ZN.Net p] else s++(((Zb.YB d).take k).filter (fun p=>decide (ZN.Dir p=1))).map ZN.Net):=by
 rw [Yo hx,List.filter_append,List.map_append]
 by_cases h:ZN.Dir p=1
 ·rw [if_pos h];simp [h]
 ·rw [if_neg h];simp [h]
theorem Zor {d:Zb} (k m:Nat):(((Zb.Instances d).take m).map Yc++(((Zb.YB d).take k).filter (fun p=>decide (ZN.Dir p=1))).map ZN.Net).length≤(Zb.Instances d).length+(Zb.YB d).length:=by
 have h:=List.length_filter_le (fun p=>decide (ZN.Dir p=1)) ((Zb.YB d).take k)
 simp only [List.length_append,List.length_map,List.length_take] at h ⊢
 omega
theorem Zht (a:Zn) (d:Zb) (ha:sm YR a) (hd:sm Yv d):Zbj a d=some (tr (Jb a d)):=by
 obtain ⟨h1,h2,h3⟩:=ZeQ hd
 have s1:=Zv h1
 have s2:=Zv h2
 have s3:=Zv h3
 unfold Zbj
 refine Za8 (P:=ZkU a∧ZfM d∧(ZcB (Zb.Instances d) (fun _ x=>ZdO a d x)∧(ZcB (Zb.YB d) (fun _ p=>Ze6 d p)∧ZfN d))) (YC (ZgK a ha) (fun hL=>YC (Zdm d hd) (fun hN=>?_))) (by rw [Ja,Ja];exact Iff.rfl)
 rw [Zi (by omega),Zi (by omega),Zi (by omega),Zi (by omega)]
 have:=ZeJ (l:=Zb.Instances d) (ρ:=Bool) (fun k=>((k:Int),Zhr (Zb.Yb d).length (((Zb.Instances d).take k).map Yc),())) (fun _ x=>ZdO a d x) (step:=fun v=>Qu a d v.1 v.2.1) (bad:=false) (good:=tr (ZcB (Zb.YB d) (fun _ p=>Ze6 d p)∧ZfN d))
  (fun k x hx hk _=>by
   have hsx:=Zfk h1 hx
   simp only [Qu,show (k:Int)<((Zb.Instances d).length:Int) from by omega,if_true,Zo,hx,Bq,Zcy d a x hd ha hsx]
   constructor
   ·intro hh
    obtain ⟨e1,e2⟩:=hh.last hL (Zv (ZjX hsx).2)
    rw [if_pos (Z5 hh),e1,Bq,Zel e2.1 (by have:=e2.2;omega) (by simp only [List.length_map,List.length_take];omega) (F:=fun o=>some (Sum.inl (Wq ((k:Int)+1),o,()))),Yo hx,List.map_append,Qb (by omega)]
    rfl
   ·intro hh;rw [if_neg (by rw [ZR hh];simp)])
  (fun hA=>by
   simp only [Qu,Int.lt_irrefl,if_false,List.take_length]
   have:=ZeJ (l:=Zb.YB d) (ρ:=Int×List Int×Unit ⊕ Bool) (fun k=>((k:Int),Zhr (Zb.Yb d).length ((Zb.Instances d).map Yc++(((Zb.YB d).take k).filter (fun p=>decide (ZN.Dir p=1))).map ZN.Net),())) (fun _ p=>Ze6 d p) (step:=fun v=>XI d v.1 v.2.1) (bad:=.inr false) (good:=.inr (tr (ZfN d)))
    (fun k p hx hk _=>by
     have hl:=Zor (d:=d) k (Zb.Instances d).length
     rw [List.take_length] at hl
     simp only [XI,show (k:Int)<((Zb.YB d).length:Int) from by omega,if_true,Zo,hx,Bq,Zbf d _ hd,Zmw hx]
     by_cases d1:ZN.Dir p=1
     ·simp only [d1,if_true]
      constructor
      ·intro hh
       rw [if_pos (Z5 hh.2),Zel hh.2.1 (by have:=hh.2.2;omega) (by omega) (F:=fun o=>some (Sum.inl (Wq ((k:Int)+1),o,()))),Qb (by omega)]
      ·intro hh
       rw [if_neg (by rw [ZR (fun q=>hh ⟨by omega,q⟩)];simp)]
     ·simp only [d1,if_false]
      by_cases d2:ZN.Dir p=2
      ·simp only [d2,if_true]
       constructor
       ·intro hh
        rw [if_pos (Z5 hh.2),Qb (by omega)]
       ·intro hh
        rw [if_neg (by rw [ZR (fun q=>hh ⟨by omega,q⟩)];simp)]
      ·simp only [d2,if_false]
       exact ⟨fun hh=>by have:=hh.1;omega,fun _=>trivial⟩)
    (fun _=>by
     simp only [XI,Int.lt_irrefl,if_false,List.take_length]
     rw [XM (show Len _ by show List.length _≤_;rw [ZeF];omega) (fun n=>!decide (n=1)) (fun n _=>rfl),Bq]
     congr 3
     refine (ZjA ?_).symm
     rw [Bool.not_eq_true',List.any_eq_false]
     simp only [Bool.not_eq_true',Bool.not_eq_false,decide_eq_true_eq,decide_eq_false_iff_not,Classical.not_not]
     exact Iff.rfl)
   refine (show Zl (fun v=>XI d v.1 v.2.1) ((0:Int),Zhr (Zb.Yb d).length ((Zb.Instances d).map Yc),())=_ from (by simpa using this)).trans ?_
   by_cases hP:ZcB (Zb.YB d) (fun _ p=>Ze6 d p)
   ·rw [Xk hP];congr 2;exact Xu ⟨fun q=>⟨hP,q⟩,fun q=>q.2⟩
   ·rw [YT hP,ZR (fun q=>hP q.1)])
 rw [Zgu] at this
 refine Eq.trans ?_ this
 rw [List.take_zero,List.map_nil,Zkc]
 rfl
/-
  Plain laws: designs by the reference; places.
-/
theorem ZhD (a:Zn) (d:Zb) (ha:sm YR a) (hd:sm Yv d):Zbp a d=some (tr (ZcB (Zb.Instances d) (fun _ x=>ZdO a d x)∧ZcB (Zb.YB d) (fun _ p=>Ze6 d p))):=by
 obtain ⟨h1,h2,h3⟩:=ZeQ hd
 have s1:=Zv h1
 have s2:=Zv h2
 have s3:=Zv h3
 have sa:=Zv (Zp7 ha)
 have e1:Wq (((Zb.Yb d).length:Int)-1)=((Zb.Yb d).length:Int)-1:=ZdP (by omega) (by omega)
 have e2:Wq (((Zn.Cells a).length:Int)-1)=((Zn.Cells a).length:Int)-1:=ZdP (by omega) (by omega)
 unfold Zbp
 rw [Qz (YX h1) (fun _ x=>ZdO a d x) (bad:=false) (good:=tr (ZcB (Zb.YB d) (fun _ p=>Ze6 d p)))
  (fun k x hx hk _=>by
   have hsx:=Zfk h1 hx
   simp only [JD,show (k:Int)<((Zb.Instances d).length:Int) from by omega,if_true,Zo,hx,Bq,Qx,e2]
   by_cases hc:0≤Zd.Cell x∧Zd.Cell x≤((Zn.Cells a).length:Int)-1
   ·obtain ⟨c,hc1,hc2⟩:=Zn4 hc.1 (show Zd.Cell x<((Zn.Cells a).length:Int) by omega)
    rw [if_pos (Z5 hc),hc1,Bq]
    by_cases hp:((Zd.Yb x).length:Int)=((Zf.Ye c).length:Int)
    ·rw [if_pos hp,Qz (YX (ZjX hsx).2) (fun _ n=>Zj5 d n) (bad:=.inr false) (good:=.inl (Wq ((k:Int)+1),()))
      (fun j n hn hj _=>by
       simp only [JB,show (j:Int)<((Zd.Yb x).length:Int) from by omega,if_true,Zo,hn,Bq,Qx,e1]
       constructor
       ·intro hh;exact if_pos (Z5 hh)
       ·intro hh;exact if_neg (fun q=>hh ((YK _).1 q)))
      (fun _=>by simp only [JB,Int.lt_irrefl,if_false])]
     constructor
     ·intro hh;rw [Xk (Ja.2 hh.2.2)]
     ·intro hh;rw [YT (fun q=>hh ⟨hc,⟨c,hc2,by omega⟩,Ja.1 q⟩)]
    ·rw [if_neg hp]
     refine ⟨fun hh=>?_,fun _=>rfl⟩
     obtain ⟨_,⟨c',q1,q2⟩,_⟩:=hh
     rw [hc2] at q1;injection q1 with q1;subst q1
     exact absurd (by omega) hp
   ·rw [if_neg (by rw [ZR hc];simp)]
    exact ⟨fun hh=>absurd hh.1 hc,fun _=>rfl⟩)
  (fun _=>by
   simp only [JD,Int.lt_irrefl,if_false]
   rw [Qz (YX h2) (fun _ p=>Ze6 d p) (bad:=.inr false) (good:=.inr true)
    (fun k p hx hk _=>by
     simp only [JC,show (k:Int)<((Zb.YB d).length:Int) from by omega,if_true,Zo,hx,Bq,Qx,e1]
     by_cases hc:1≤ZN.Dir p∧ZN.Dir p≤2
     ·rw [if_pos (Z5 hc)]
      constructor
      ·intro hh;exact if_pos (Z5 hh.2)
      ·intro hh;exact if_neg (fun q=>hh ⟨hc,(YK _).1 q⟩)
     ·rw [if_neg (by rw [ZR hc];simp)]
      exact ⟨fun hh=>absurd hh.1 hc,fun _=>rfl⟩)
    (fun _=>by simp only [JC,Int.lt_irrefl,if_false])]
   congr 1
   by_cases hh:ZcB (Zb.YB d) (fun _ p=>Ze6 d p)
   ·rw [Xk hh,Z5 hh]
   ·rw [YT hh,ZR hh])]
 rw [Zgu]
theorem ZmW {α:Type} {l:List α} {f:α→List UInt8} (h:∀ x∈l,(f x).length≤4611686018427387904):∀ s∈l.map f,s.length≤4611686018427387904:=by
 intro s hs
 obtain ⟨x,hx,rfl⟩:=List.mem_map.1 hs
 exact h x hx
theorem ZdW (a:Zn) (d:Zb) (ha:sm YR a) (hd:sm Yv d):Zac a d=some (tr (Jb a d)):=by
 obtain ⟨h1,h2,h3⟩:=ZeQ hd
 have s1:=Zv h1
 have s2:=Zv h2
 have s3:=Zv h3
 unfold Zac
 refine Za8 (YC (Zha a ha) (fun hL=>ZcT (fun a1=>ZcT (fun a2=>ZcT (fun a3=>YC (ZhD a d ha hd) (fun hP=>?_))))))
  (P:=ZkU a∧¬(14:Int)<((Zb.Instances d).length:Int)∧¬(30:Int)<((Zb.Yb d).length:Int)∧¬(8:Int)<((Zb.YB d).length:Int)∧(ZcB (Zb.Instances d) (fun _ x=>ZdO a d x)∧ZcB (Zb.YB d) (fun _ p=>Ze6 d p))∧(Qq (ZbF d) (ZbF d).length∧Qq (J7 d) (J7 d).length∧Qq (Zb.Yb d) (Zb.Yb d).length)∧ZfN d) ?_
 ·have hi:(ZbF d).length=(Zb.Instances d).length:=by simp [ZbF]
  have hp:(J7 d).length=(Zb.YB d).length:=by simp [J7]
  refine gather (l:=Zb.Instances d) s1 Zd.Name (fun k x o hx hk ho=>?_) ?_
  ·simp only [Jy,hk,if_true,Zo,hx,Bq]
  simp only [Jy,Int.lt_irrefl,if_false]
  refine gather (l:=Zb.YB d) s2 ZN.Name (fun k x o hx hk ho=>?_) ?_
  ·simp only [Jw,hk,if_true,Zo,hx,Bq]
  simp only [Jw,Int.lt_irrefl,if_false]
  rw [show List.map ZN.Name (Zb.YB d)=J7 d from rfl,show List.map Zd.Name (Zb.Instances d)=ZbF d from rfl]
  simp only [Zbb (ZbF d) (by omega) (ZmW (fun x hx=>ZeC (ZjX (Zlx h1 hx)).1)),Zbb (J7 d) (by omega) (ZmW (fun x hx=>ZeC (Zr8 (Zlx h2 hx)))),Zbb (Zb.Yb d) (by omega) (fun s hs=>ZeC (Zlx h3 hs)),Bq]
  by_cases n1:Qq (ZbF d) (ZbF d).length
  ·rw [if_pos (Z5 n1)]
   by_cases n2:Qq (J7 d) (J7 d).length
   ·rw [if_pos (Z5 n2)]
    by_cases n3:Qq (Zb.Yb d) (Zb.Yb d).length
    ·rw [if_pos (Z5 n3),Zi (by omega),Zi (by omega),Zi (by omega),Zi (by omega)]
     have:=Xi (l:=Zb.Instances d) (ρ:=(List (List UInt8))×Int×Unit ⊕ ((List (List UInt8))×Int×Unit ⊕ Bool)) (fun k=>((k:Int),Zhr (Zb.Yb d).length (((Zb.Instances d).take k).map Yc),())) (step:=fun v=>XP d v.1 v.2.1) (good:=.inr (.inr (tr (ZfN d))))
      (fun k x hx hk=>by
       have hsx:=Zfk h1 hx
       obtain ⟨e1,e2⟩:=(hP.1 k x hx).last hL (Zv (ZjX hsx).2)
       simp only [XP,show (k:Int)<((Zb.Instances d).length:Int) from by omega,if_true,Zo,hx,Bq]
       rw [e1,Bq,Zel e2.1 (by have:=e2.2;omega) (by simp only [List.length_map,List.length_take];omega) (F:=fun o=>some (Sum.inl (Wq ((k:Int)+1),o,()))),Yo hx,List.map_append,Qb (by omega)]
       rfl)
      (by
       simp only [XP,Int.lt_irrefl,if_false,List.take_length]
       have:=Xi (l:=Zb.YB d) (ρ:=Int×List Int×Unit ⊕ ((List (List UInt8))×Int×Unit ⊕ ((List (List UInt8))×Int×Unit ⊕ Bool))) (fun k=>((k:Int),Zhr (Zb.Yb d).length ((Zb.Instances d).map Yc++(((Zb.YB d).take k).filter (fun p=>decide (ZN.Dir p=1))).map ZN.Net),())) (step:=fun v=>XO d v.1 v.2.1) (good:=.inr (.inr (.inr (tr (ZfN d)))))
        (fun k p hx hk=>by
         have hl:=Zor (d:=d) k (Zb.Instances d).length
         rw [List.take_length] at hl
         have hpo:=hP.2 k p hx
         simp only [XO,show (k:Int)<((Zb.YB d).length:Int) from by omega,if_true,Zo,hx,Bq,Zmw hx]
         by_cases d1:ZN.Dir p=1
         ·simp only [d1,if_true]
          rw [Zel hpo.2.1 (by have:=hpo.2.2;omega) (by omega) (F:=fun o=>some (Sum.inl (Wq ((k:Int)+1),o,()))),Qb (by omega)]
         ·simp only [d1,if_false]
          rw [Qb (by omega)])
        (by
         simp only [XO,Int.lt_irrefl,if_false,List.take_length]
         rw [Qz (l:=Zhr (Zb.Yb d).length ((Zb.Instances d).map Yc++((Zb.YB d).filter (fun p=>decide (ZN.Dir p=1))).map ZN.Net)) (show List.length _≤_ by rw [ZeF];omega) (fun _ x=>x=1) (bad:=.inr (.inr (.inr (.inr false)))) (good:=.inr (.inr (.inr (.inr true))))
          (fun k x hx hk _=>by
           simp only [Jv,show (k:Int)<((Zhr (Zb.Yb d).length ((Zb.Instances d).map Yc++((Zb.YB d).filter (fun p=>decide (ZN.Dir p=1))).map ZN.Net)).length:Int) from by omega,if_true,Zo,hx,Bq]
           constructor
           ·intro hh;rw [if_pos hh]
           ·intro hh;rw [if_neg hh])
          (fun _=>by simp only [Jv,Int.lt_irrefl,if_false])]
         congr 1
         have e:ZcB (Zhr (Zb.Yb d).length ((Zb.Instances d).map Yc++((Zb.YB d).filter (fun p=>decide (ZN.Dir p=1))).map ZN.Net)) (fun _ x=>x=1)↔ZfN d:=by
          rw [Ja];exact Iff.rfl
         by_cases hh:ZfN d
         ·rw [Xk (e.2 hh),Z5 hh]
         ·rw [YT (fun q=>hh (e.1 q)),ZR hh])
       refine (show Zl (fun v=>XO d v.1 v.2.1) ((0:Int),Zhr (Zb.Yb d).length ((Zb.Instances d).map Yc),())=_ from (by simpa using this)).trans ?_
       rfl)
     rw [List.take_zero,List.map_nil,Zkc] at this
     refine (show Zl (fun v=>XP d v.1 v.2.1) ((0:Int),List.replicate (Zb.Yb d).length 0,())=_ from this).trans ?_
     congr 3
     exact Xu ⟨fun q=>⟨⟨n1,n2,n3⟩,q⟩,fun q=>q.2⟩
    ·rw [if_neg (by rw [ZR n3];simp),ZR (fun q=>n3 q.1.2.2)]
   ·rw [if_neg (by rw [ZR n2];simp),ZR (fun q=>n2 q.1.2.1)]
  ·rw [if_neg (by rw [ZR n1];simp),ZR (fun q=>n1 q.1.1)]
 ·unfold Jb ZfM
  rw [Ja,Ja]
  constructor
  ·rintro ⟨q1,q2,q3,q4,⟨q5,q6⟩,⟨q7,q8,q9⟩,q10⟩
   exact ⟨q1,⟨by omega,by omega,by omega,q7,q9,q8⟩,q5,q6,q10⟩
  ·rintro ⟨q1,⟨q2,q3,q4,q7,q9,q8⟩,q5,q6,q10⟩
   exact ⟨q1,by omega,by omega,by omega,⟨q5,q6⟩,⟨q7,q8,q9⟩,q10⟩
/-
  Plain laws: places, sinks, wires.
-/
def cat {α β:Type} (f:Nat→α→List β):Nat→List α→List β
 | _,[]=>[]
 | k,x::r=>f k x++cat f (k+1) r
theorem ZjG {α β:Type} (f:Nat→α→List β):∀ (l r:List α) (m:Nat),cat f m (l++r)=cat f m l++cat f (m+l.length) r
 | [],r,m=>by simp [cat]
 | x::l,r,m=>by
  simp only [List.cons_append,cat,List.length_cons,ZjG f l r,List.append_assoc]
  rw [show m+1+l.length=m+(l.length+1) by omega]
theorem Zmt {α β:Type} {f:Nat→α→List β} {l:List α} {k:Nat} {x:α} (hx:l[k]?=some x):cat f 0 (l.take (k+1))=cat f 0 (l.take k)++f k x:=by
 have hk:=(List.getElem?_eq_some_iff.1 hx).1
 rw [Yo hx,ZjG]
 simp only [cat,Nat.zero_add,List.length_take,List.append_nil]
 rw [show min k l.length=k by omega]
theorem ZdB {α β:Type} {f:Nat→α→List β} {y:β}:∀ {l:List α} {m:Nat},y∈cat f m l↔∃ (k:Nat) (x:α),l[k]?=some x∧y∈f (m+k) x
 | [],m=>by simp [cat]
 | z::r,m=>by
  simp only [cat,List.mem_append,ZdB (l:=r)]
  constructor
  ·rintro (h | ⟨k,x,h1,h2⟩)
   ·exact ⟨0,z,rfl,h⟩
   ·exact ⟨k+1,x,by simpa using h1,by rw [show m+(k+1)=m+1+k by omega];exact h2⟩
  ·rintro ⟨k,x,h1,h2⟩
   cases k with
   | zero=>simp at h1;subst h1;exact .inl h2
   | succ k=>exact .inr ⟨k,x,by simpa using h1,by rw [show m+1+k=m+(k+1) by omega];exact h2⟩
theorem ZcU {α β:Type} {f:Nat→α→List β} {c:Nat}:∀ {l:List α} {m:Nat},(∀ k,∀ x∈l,(f k x).length≤c)→(cat f m l).length≤c*l.length
 | [],m,_=>by simp [cat]
 | z::r,m,h=>by
  simp only [cat,List.length_append,List.length_cons]
  have h1:=h m z (by simp)
  have h2:=ZcU (f:=f) (l:=r) (m:=m+1) (fun k x hx=>h k x (by simp [hx]))
  rw [Nat.mul_add];omega
theorem Vj {α β ρ:Type} {l:List α} (f:Nat→α→List β) (acc:List β) {step:List β×Int×Unit→Option ((List β×Int×Unit) ⊕ ρ)} {good:ρ}
  (hs:∀ (k:Nat) (x:α),l[k]?=some x→k<l.length→step (acc++cat f 0 (l.take k),(k:Int),())=some (.inl ((acc++cat f 0 (l.take k))++f k x,((k+1:Nat):Int),())))
  (hx:step (acc++cat f 0 l,(l.length:Int),())=some (.inr good)):Zl step (acc,(0:Int),())=some good:=by
 have:=Xi (l:=l) (ρ:=ρ) (fun k=>(acc++cat f 0 (l.take k),(k:Int),())) (step:=step) (good:=good) (fun k x hx hk=>by
  rw [hs k x hx hk,Zmt hx,List.append_assoc]) (by simp only [List.take_length];exact hx)
 simpa [cat] using this
abbrev Pl:=Int×Int×Int×Bool×Unit
def ZdR (i:Nat) (x:Zd):List Pl:=cat (fun j n=>[((i:Int),(j:Int),n,decide ((j:Int)=Wq (((Zd.Yb x).length:Int)-1)),())]) 0 (Zd.Yb x)
def Zex (j:Nat) (p:ZN):List Pl:=[((-1:Int),(j:Int),ZN.Net p,decide (ZN.Dir p=1),())]
def places (d:Zb):List Pl:=cat ZdR 0 (Zb.Instances d)++cat Zex 0 (Zb.YB d)
theorem Znm (i:Nat) (x:Zd):(ZdR i x).length≤(Zd.Yb x).length:=by
 have:=ZcU (f:=fun j n=>[((i:Int),(j:Int),n,decide ((j:Int)=Wq (((Zd.Yb x).length:Int)-1)),())]) (c:=1) (l:=Zd.Yb x) (m:=0) (fun _ _ _=>by simp)
 simpa [ZdR] using this
structure Few (d:Zb):Prop where
 insts:(Zb.Instances d).length≤14
 ports:(Zb.YB d).length≤8
 nets:∀ x∈Zb.Instances d,(Zd.Yb x).length≤5
theorem Jb.few {a:Zn} {d:Zb} (h:Jb a d):Few d:=by
 refine ⟨h.2.1.1,h.2.1.2.2.1,fun x hx=>?_⟩
 obtain ⟨_,⟨c,hc,hn⟩,_⟩:=h.2.2.1 x hx
 have:=(h.1.2.1 c (List.mem_of_getElem? hc)).2.1.2.1
 omega
theorem ZaU {d:Zb} (h:Few d) (k:Nat):(cat ZdR 0 ((Zb.Instances d).take k)).length≤70:=by
 have:=ZcU (f:=ZdR) (c:=5) (l:=(Zb.Instances d).take k) (m:=0) (fun i x hx=>by
  have h1:=Znm i x
  have h2:=h.nets x (List.mem_of_mem_take hx)
  omega)
 have h1:=h.insts
 rw [List.length_take] at this
 omega
theorem Zej {d:Zb} (h:Few d) (k:Nat):(cat Zex 0 ((Zb.YB d).take k)).length≤8:=by
 have:=ZcU (f:=Zex) (c:=1) (l:=(Zb.YB d).take k) (m:=0) (fun i x hx=>by simp [Zex])
 have h1:=h.ports
 rw [List.length_take] at this
 omega
theorem ZeM {d:Zb} (h:Few d):(places d).length≤78:=by
 have h1:=ZaU h (Zb.Instances d).length
 have h2:=Zej h (Zb.YB d).length
 rw [List.take_length] at h1 h2
 unfold places
 rw [List.length_append];omega
theorem Zer (d:Zb) (h:Few d):QU d=some (places d):=by
 have h1:=h.insts
 have h2:=h.ports
 unfold QU
 refine Vj (l:=Zb.Instances d) ZdR [] (fun k x hx hk=>?_) ?_
 ·have hn:=h.nets x (List.mem_of_getElem? hx)
  have hl:=ZaU h k
  simp only [List.nil_append,Qk,show (k:Int)<((Zb.Instances d).length:Int) from by omega,if_true,Zo,hx,Bq]
  refine Vj (l:=Zd.Yb x) (fun j n=>[((k:Int),(j:Int),n,decide ((j:Int)=Wq (((Zd.Yb x).length:Int)-1)),())]) _ (fun j n hj hk'=>?_) ?_
  ·have hl2:=ZcU (f:=fun j n=>[((k:Int),(j:Int),n,decide ((j:Int)=Wq (((Zd.Yb x).length:Int)-1)),())]) (c:=1) (l:=(Zd.Yb x).take j) (m:=0) (fun _ _ _=>by simp)
   rw [List.length_take] at hl2
   simp only [Qi,show (j:Int)<((Zd.Yb x).length:Int) from by omega,if_true,Zo,hj,Bq]
   rw [Zi (by rw [List.length_append,List.length_singleton];omega),Qb (by omega)]
  ·simp only [Qi,Int.lt_irrefl,if_false]
   rw [Qb (by omega)];rfl
 ·have hl:=ZaU h (Zb.Instances d).length
  rw [List.take_length] at hl
  simp only [List.nil_append,Qk,Int.lt_irrefl,if_false]
  refine Vj (l:=Zb.YB d) Zex _ (fun j p hj hk'=>?_) ?_
  ·have hl2:=Zej h j
   simp only [Qj,show (j:Int)<((Zb.YB d).length:Int) from by omega,if_true,Zo,hj,Bq]
   rw [Zi (by rw [List.length_append,List.length_singleton];omega),Qb (by omega)];rfl
  ·simp only [Qj,Int.lt_irrefl,if_false];rfl
theorem ZaA (d:Zb) (h:Few d):QL d=some (places d):=by
 have h1:=h.insts
 have h2:=h.ports
 unfold QL
 refine Vj (l:=Zb.Instances d) ZdR [] (fun k x hx hk=>?_) ?_
 ·have hn:=h.nets x (List.mem_of_getElem? hx)
  have hl:=ZaU h k
  simp only [List.nil_append,VU,show (k:Int)<((Zb.Instances d).length:Int) from by omega,if_true,Zo,hx,Bq]
  refine Vj (l:=Zd.Yb x) (fun j n=>[((k:Int),(j:Int),n,decide ((j:Int)=Wq (((Zd.Yb x).length:Int)-1)),())]) _ (fun j n hj hk'=>?_) ?_
  ·have hl2:=ZcU (f:=fun j n=>[((k:Int),(j:Int),n,decide ((j:Int)=Wq (((Zd.Yb x).length:Int)-1)),())]) (c:=1) (l:=(Zd.Yb x).take j) (m:=0) (fun _ _ _=>by simp)
   rw [List.length_take] at hl2
   simp only [VR,show (j:Int)<((Zd.Yb x).length:Int) from by omega,if_true,Zo,hj,Bq]
   rw [Zi (by rw [List.length_append,List.length_singleton];omega),Qb (by omega)]
  ·simp only [VR,Int.lt_irrefl,if_false]
   rw [Qb (by omega)];rfl
 ·have hl:=ZaU h (Zb.Instances d).length
  rw [List.take_length] at hl
  simp only [List.nil_append,VU,Int.lt_irrefl,if_false]
  refine Vj (l:=Zb.YB d) Zex _ (fun j p hj hk'=>?_) ?_
  ·have hl2:=Zej h j
   simp only [VT,show (j:Int)<((Zb.YB d).length:Int) from by omega,if_true,Zo,hj,Bq]
   rw [Zi (by rw [List.length_append,List.length_singleton];omega),Qb (by omega)];rfl
  ·simp only [VT,Int.lt_irrefl,if_false];rfl
def ZkE (net:Int) (i:Nat) (x:Pl):List Int:=if x.2.2.1=net then (if x.2.2.2.1=true then [] else [(i:Int)]) else []
def sinks (d:Zb) (net:Int):List Int:=cat (ZkE net) 0 (places d)
theorem Zo6 (net:Int) (l:List Pl) (m:Nat):(cat (ZkE net) m l).length≤l.length:=by
 have:=ZcU (f:=ZkE net) (c:=1) (l:=l) (m:=m) (fun i x _=>by
  unfold ZkE;split
  ·split<;>simp
  ·simp)
 omega
theorem ZwV (d:Zb) (net:Int) (h:Few d):Zwv d net=some (sinks d net):=by
 have hp:=ZeM h
 unfold Zwv
 rw [Zer d h,Bq]
 refine Vj (l:=places d) (ZkE net) [] (fun k x hx hk=>?_) ?_
 ·have hl:=Zo6 net ((places d).take k) 0
  rw [List.length_take] at hl
  simp only [List.nil_append,Zwj,show (k:Int)<((places d).length:Int) from by omega,if_true,Zo,hx,Bq,ZkE,Qb (show k≤1048576 by omega)]
  split
  ·split
   ·rw [List.append_nil]
   ·rw [Zi (by
     show (List.length _+1)*8≤_
     have:(cat (ZkE net) 0 ((places d).take k)).length≤78:=by omega
     omega)]
  ·rw [List.append_nil]
 ·simp only [List.nil_append,Zwj,Int.lt_irrefl,if_false];rfl
theorem ZhE (d:Zb) (net:Int) (h:Few d):Zbq d net=some (sinks d net):=by
 have hp:=ZeM h
 unfold Zbq
 rw [ZaA d h,Bq]
 refine Vj (l:=places d) (ZkE net) [] (fun k x hx hk=>?_) ?_
 ·have hl:=Zo6 net ((places d).take k) 0
  rw [List.length_take] at hl
  simp only [List.nil_append,JE,show (k:Int)<((places d).length:Int) from by omega,if_true,Zo,hx,Bq,ZkE,Qb (show k≤1048576 by omega)]
  split
  ·split
   ·rw [List.append_nil]
   ·rw [Zi (by
     show (List.length _+1)*8≤_
     have:(cat (ZkE net) 0 ((places d).take k)).length≤78:=by omega
     omega)]
  ·rw [List.append_nil]
 ·simp only [List.nil_append,JE,Int.lt_irrefl,if_false];rfl
def loads (d:Zb):List Int:=((places d).filter (fun x=>!x.2.2.2.1)).map (fun x=>x.2.2.1)
theorem ZiP (net:Int):∀ (l:List Pl) (m:Nat),(cat (ZkE net) m l).length=((l.filter (fun x=>!x.2.2.2.1)).map (fun x=>x.2.2.1)).countP (fun y=>decide (y=net))
 | [],m=>by simp [cat]
 | x::r,m=>by
  simp only [cat,List.length_append,ZiP net r,ZkE]
  obtain ⟨a,b,n,dr,u⟩:=x
  cases dr
  ·by_cases e:n=net
   ·simp [e,Nat.add_comm]
   ·simp [e]
  ·simp
/-
  Plain laws: wires, blocks.
-/
theorem Zo9 {w:Zz} (h:sm Zaj w):sm (.sl (.int .i64)) (Zz.Parent w)∧sm (.sl (.int .i64)) (Zz.Res w)∧sm (.sl (.int .i64)) (Zz.Cap w)∧sm (.sl (.int .i64)) (Zz.Zj6 w):=by
 refine ⟨?_,?_,?_,?_⟩
 all_goals first | exact h.1 | exact h.2.1 | exact h.2.2.1 | exact h.2.2.2.1
theorem ZkG {b:Zg} (h:sm YG b):sm YR (Zg.Library b)∧sm Yv (Zg.Design b)∧sm (.sl Zaj) (Zg.Qo b):=by
 refine ⟨?_,?_,?_⟩
 all_goals first | exact h.1 | exact h.2.1 | exact h.2.2.1 | exact h.2.2.2.1
def ZhS (w:Zz) (k:Nat) (x:Int):Prop:=(k=0→x=-1∧(Zz.Res w)[0]?=some 0)∧(0<k→0≤x∧x≤(k:Int)-1)
def Zeg (w:Zz) (s:Int):Prop :=
 (1≤(Zz.Parent w).length∧(Zz.Parent w).length≤8)∧(Zz.Res w).length=(Zz.Parent w).length∧(Zz.Cap w).length=(Zz.Parent w).length∧((Zz.Zj6 w).length:Int)=s∧
 ZcB (Zz.Parent w) (ZhS w)∧Zcu (Zz.Res w) 0 1000∧Zcu (Zz.Cap w) 0 500∧Zcu (Zz.Zj6 w) 0 (((Zz.Parent w).length:Int)-1)
theorem Zb1 (l:List Int) (lo hi:Int) (hl:l.length≤1048576):YJ l lo hi=some (tr (Zcu l lo hi)):=by
 rw [Vs l lo hi (by omega)]
 exact Zbd (ZfP _ _ _)
theorem Zfq (w:Zz) (hw:sm Zaj w) (h1:1≤(Zz.Parent w).length) (h2:(Zz.Res w).length=(Zz.Parent w).length):Je w=some (tr (ZcB (Zz.Parent w) (ZhS w))):=by
 obtain ⟨a1,a2,a3,a4⟩:=Zo9 hw
 have s1:=Zv a1
 unfold Je
 have hr:(Zz.Res w)[0]?=some (Zz.Res w)[0]:=List.getElem?_eq_getElem (by omega)
 rw [Qz (YX a1) (ZhS w) (bad:=false) (good:=true)
  (fun k x hx hk _=>by
   simp only [QN,show (k:Int)<((Zz.Parent w).length:Int) from by omega,if_true,Zo,hx,Bq]
   unfold ZhS
   by_cases hk0:k=0
   ·subst hk0
    rw [if_pos (by rfl),show atI (Zz.Res w) 0=some (Zz.Res w)[0] from hr,hr]
    simp only [Bq,Option.some.injEq]
    rw [if_neg (show ¬(0:Int)<((0:Nat):Int) by omega)]
    constructor
    ·intro hh
     obtain ⟨q1,q2⟩:=hh.1 trivial
     rw [if_pos q1,if_pos q2]
    ·intro hh
     by_cases q1:x=-1
     ·rw [if_pos q1,if_neg (fun q2=>hh ⟨fun _=>⟨q1,q2⟩,fun h=>by omega⟩)]
     ·rw [if_neg q1]
   ·rw [if_neg (by omega),if_pos (by omega),Vh,Bq,ZdP (by omega) (by omega)]
    constructor
    ·intro hh;rw [if_pos (Z5 (hh.2 (by omega)))]
    ·intro hh;rw [if_neg (fun q=>hh ⟨fun h=>absurd h hk0,fun _=>(YK _).1 q⟩)])
  (fun _=>by simp only [QN,Int.lt_irrefl,if_false]),ZiO]
theorem Zi9 (w:Zz) (s:Int) (hw:sm Zaj w):Zdo w s=some (tr (Zeg w s)):=by
 obtain ⟨a1,a2,a3,a4⟩:=Zo9 hw
 have s1:=Zv a1
 have s2:=Zv a2
 have s3:=Zv a3
 have s4:=Zv a4
 unfold Zdo
 simp only [VI,Bq,ZdP (show (-9223372036854775808:Int)≤((Zz.Parent w).length:Int)-1 by omega) (by omega)]
 refine Za8 (YC (Vh _ _ _) (fun q1=>Y0 (fun q2=>Y0 (fun q3=>YC (Zfq w hw (by omega) (by omega)) (fun q4=>YC (Zb1 _ _ _ s2) (fun q5=>YC (Zb1 _ _ _ s3) (fun q6=>Y0 (fun q7=>ZgD (Zb1 _ _ _ s4))))))))) ?_
 unfold Zeg
 constructor
 ·rintro ⟨q1,q2,q3,q4,q5,q6,q7,q8⟩
  exact ⟨⟨by omega,by omega⟩,by omega,by omega,q7,q4,q5,q6,q8⟩
 ·rintro ⟨q1,q2,q3,q7,q4,q5,q6,q8⟩
  exact ⟨by omega,by omega,by omega,q4,q5,q6,q7,q8⟩
theorem Zmm {l:List Int} {lo hi:Int}:Zcu l lo hi↔∀ (k:Nat) (x:Int),l[k]?=some x→lo≤x∧x≤hi:=by
 unfold Zcu
 constructor
 ·intro h k x hx;exact h x (List.mem_of_getElem? hx)
 ·intro h x hx
  obtain ⟨k,hk⟩:=List.mem_iff_getElem?.1 hx
  exact h k x hk
theorem Zjw (w:Zz) (s:Int) (hw:sm Zaj w):ZdJ w s=some (tr (Zeg w s)):=by
 obtain ⟨a1,a2,a3,a4⟩:=Zo9 hw
 have s1:=Zv a1
 have s2:=Zv a2
 have s3:=Zv a3
 have s4:=Zv a4
 have e1:Wq (((Zz.Parent w).length:Int)-1)=((Zz.Parent w).length:Int)-1:=ZdP (by omega) (by omega)
 unfold ZdJ
 refine Za8 (ZcT (fun q1=>ZcT (fun q2=>Y0 (fun q3=>Y0 (fun q4=>Y0 (fun q5=>?_)))))) ?_
  (P:=¬((Zz.Parent w).length:Int)<1∧¬(8:Int)<((Zz.Parent w).length:Int)∧((Zz.Res w).length:Int)=((Zz.Parent w).length:Int)∧((Zz.Cap w).length:Int)=((Zz.Parent w).length:Int)∧((Zz.Zj6 w).length:Int)=s∧
   (ZcB (Zz.Parent w) (fun k x=>(∀ c,(Zz.Cap w)[k]?=some c→0≤c∧c≤500)∧(∀ r,(Zz.Res w)[k]?=some r→0≤r∧r≤1000)∧ZhS w k x)∧Zcu (Zz.Zj6 w) 0 (((Zz.Parent w).length:Int)-1)))
 ·rw [Qz (YX a1) (fun k x=>(∀ c,(Zz.Cap w)[k]?=some c→0≤c∧c≤500)∧(∀ r,(Zz.Res w)[k]?=some r→0≤r∧r≤1000)∧ZhS w k x) (bad:=false) (good:=tr (Zcu (Zz.Zj6 w) 0 (((Zz.Parent w).length:Int)-1)))
   (fun k x hx hk _=>by
    have hc:(Zz.Cap w)[k]?=some (Zz.Cap w)[k]:=List.getElem?_eq_getElem (by omega)
    have hr:(Zz.Res w)[k]?=some (Zz.Res w)[k]:=List.getElem?_eq_getElem (by omega)
    simp only [Zay,show (k:Int)<((Zz.Parent w).length:Int) from by omega,if_true,Zo,hc,hr,hx,Bq,Qx,Option.some.injEq,forall_eq']
    generalize (Zz.Cap w)[k]=c at hc
    generalize (Zz.Res w)[k]=r at hr
    by_cases qc:0≤c∧c≤500
    ·rw [if_pos (Z5 qc)]
     by_cases qr:0≤r∧r≤1000
     ·rw [if_pos (Z5 qr)]
      unfold ZhS
      by_cases hk0:k=0
      ·subst hk0
       rw [if_pos (by rfl),hr]
       simp only [Option.some.injEq]
       rw [if_neg (show ¬(0:Int)<((0:Nat):Int) by omega)]
       constructor
       ·rintro ⟨_,_,hh⟩
        obtain ⟨q1,q2⟩:=hh.1 trivial
        rw [if_pos q1,if_pos q2]
       ·intro hh
        by_cases q1:x=-1
        ·rw [if_pos q1,if_neg (fun q2=>hh ⟨qc,qr,fun _=>⟨q1,q2⟩,fun h=>by omega⟩)]
        ·rw [if_neg q1]
      ·rw [if_neg (by omega),if_pos (by omega),ZdP (show (-9223372036854775808:Int)≤(k:Int)-1 by omega) (by omega)]
       constructor
       ·intro hh;rw [if_pos (Z5 (hh.2.2.2 (by omega)))]
       ·intro hh;rw [if_neg (fun q=>hh ⟨qc,qr,fun h=>absurd h hk0,fun _=>(YK _).1 q⟩)]
     ·rw [if_neg (fun q=>qr ((YK _).1 q))]
      exact ⟨fun hh=>absurd hh.2.1 qr,fun _=>rfl⟩
    ·rw [if_neg (fun q=>qc ((YK _).1 q))]
     exact ⟨fun hh=>absurd hh.1 qc,fun _=>rfl⟩)
   (fun _=>by
    simp only [Zay,Int.lt_irrefl,if_false]
    rw [Qz (YX a4) (fun _ x=>0≤x∧x≤((Zz.Parent w).length:Int)-1) (bad:=.inr false) (good:=.inr true)
     (fun k x hx hk _=>by
      simp only [Zax,show (k:Int)<((Zz.Zj6 w).length:Int) from by omega,if_true,Zo,hx,Bq,Qx,e1]
      constructor
      ·intro hh;rw [if_pos (Z5 hh)]
      ·intro hh;rw [if_neg (fun q=>hh ((YK _).1 q))])
     (fun _=>by simp only [Zax,Int.lt_irrefl,if_false])]
    congr 1
    have e:ZcB (Zz.Zj6 w) (fun _ x=>0≤x∧x≤((Zz.Parent w).length:Int)-1)↔Zcu (Zz.Zj6 w) 0 (((Zz.Parent w).length:Int)-1):=Ja
    by_cases hh:Zcu (Zz.Zj6 w) 0 (((Zz.Parent w).length:Int)-1)
    ·rw [Xk (e.2 hh),Z5 hh]
    ·rw [YT (fun q=>hh (e.1 q)),ZR hh]),Zgu]
 ·unfold Zeg
  rw [Zmm (l:=Zz.Res w),Zmm (l:=Zz.Cap w)]
  constructor
  ·rintro ⟨q1,q2,q3,q4,q5,q6,q7⟩
   refine ⟨⟨by omega,by omega⟩,by omega,by omega,q5,fun k x hx=>(q6 k x hx).2.2,fun k r hr=>?_,fun k c hc=>?_,q7⟩
   ·have hk:=(List.getElem?_eq_some_iff.1 hr).1
    exact (q6 k _ (List.getElem?_eq_getElem (by omega))).2.1 r hr
   ·have hk:=(List.getElem?_eq_some_iff.1 hc).1
    exact (q6 k _ (List.getElem?_eq_getElem (by omega))).1 c hc
  ·rintro ⟨q1,q2,q3,q5,q6,q7,q8,q9⟩
   exact ⟨by omega,by omega,by omega,by omega,q5,fun k x hx=>⟨fun c hc=>q8 k c hc,fun r hr=>q7 k r hr,q6 k x hx⟩,q9⟩
def Za6 (b:Zg):Prop :=
 Jb (Zg.Library b) (Zg.Design b)∧(Zg.Qo b).length=(Zb.Yb (Zg.Design b)).length∧ZcB (Zg.Qo b) (fun k w=>Zeg w ((sinks (Zg.Design b) (k:Int)).length:Int))
theorem ZoW {a:Zn} {d:Zb} (h:Jb a d) {x:Pl} (hx:x∈places d):Zj5 d x.2.2.1:=by
 unfold places at hx
 rcases List.mem_append.1 hx with hx | hx
 ·obtain ⟨i,z,hi,hz⟩:=ZdB.1 hx
  unfold ZdR at hz
  obtain ⟨j,n,hj,hn⟩:=ZdB.1 hz
  simp only [List.mem_singleton] at hn
  subst hn
  exact (h.2.2.1 z (List.mem_of_getElem? hi)).2.2 n (List.mem_of_getElem? hj)
 ·obtain ⟨j,p,hj,hp⟩:=ZdB.1 hx
  simp only [Zex,List.mem_singleton] at hp
  subst hp
  exact (h.2.2.2.1 p (List.mem_of_getElem? hj)).2
theorem ZeA (b:Zg) (hb:sm YG b):Za0 b=some (tr (Za6 b)):=by
 obtain ⟨a1,a2,a3⟩:=ZkG hb
 have s3:=Zv a3
 unfold Za0
 refine Za8 (YC (ZdW _ _ a1 a2) (fun hD=>Y0 (fun q1=>?_))) ?_
  (P:=Jb (Zg.Library b) (Zg.Design b)∧((Zg.Qo b).length:Int)=((Zb.Yb (Zg.Design b)).length:Int)∧ZcB (Zg.Qo b) (fun k w=>Zeg w ((sinks (Zg.Design b) (k:Int)).length:Int)))
 ·rw [Qz (YX a3) (fun k w=>Zeg w ((sinks (Zg.Design b) (k:Int)).length:Int)) (bad:=false) (good:=true)
   (fun k w hx hk _=>by
    simp only [Zab,show (k:Int)<((Zg.Qo b).length:Int) from by omega,if_true,Zo,hx,Bq,ZhE _ _ hD.few,Zjw w _ (Zfk a3 hx)]
    constructor
    ·intro hh;rw [if_pos (Z5 hh)]
    ·intro hh;rw [if_neg (fun q=>hh ((YK _).1 q))])
   (fun _=>by simp only [Zab,Int.lt_irrefl,if_false]),ZiO]
 ·unfold Za6
  rw [show ((Zg.Qo b).length:Int)=((Zb.Yb (Zg.Design b)).length:Int)↔(Zg.Qo b).length=(Zb.Yb (Zg.Design b)).length from by omega]
theorem Znr {l:List Pl} {k:Nat} {x:Pl} (hx:l[k]?=some x) :
  (((l.take (k+1)).filter (fun x=>!x.2.2.2.1)).map (fun x=>x.2.2.1))=if x.2.2.2.1=true then (((l.take k).filter (fun x=>!x.2.2.2.1)).map (fun x=>x.2.2.1)) else (((l.take k).filter (fun x=>!x.2.2.2.1)).map (fun x=>x.2.2.1))++[x.2.2.1]:=by
 rw [Yo hx,List.filter_append,List.map_append]
 by_cases h:x.2.2.2.1=true
 ·rw [if_pos h];simp [h]
 ·rw [if_neg h];simp [h]
theorem Zh6 (b:Zg) (hb:sm YG b):Zb5 b=some (tr (Za6 b)):=by
 obtain ⟨a1,a2,a3⟩:=ZkG hb
 have s3:=Zv a3
 unfold Zb5
 refine Za8 (YC (Zht _ _ a1 a2) (fun hD=>Y0 (fun q1=>?_))) ?_
  (P:=Jb (Zg.Library b) (Zg.Design b)∧((Zg.Qo b).length:Int)=((Zb.Yb (Zg.Design b)).length:Int)∧ZcB (Zg.Qo b) (fun k w=>Zeg w ((sinks (Zg.Design b) (k:Int)).length:Int)))
 ·rw [Zi (by omega),Zi (by omega),Zi (by omega),Zi (by omega),Zer _ hD.few,Bq]
  have hpl:=ZeM hD.few
  have:=Xi (l:=places (Zg.Design b)) (ρ:=Bool) (fun k=>((k:Int),Zhr (Zg.Qo b).length ((((places (Zg.Design b)).take k).filter (fun x=>!x.2.2.2.1)).map (fun x=>x.2.2.1)),())) (step:=fun v=>QV b (places (Zg.Design b)) v.1 v.2.1) (good:=tr (ZcB (Zg.Qo b) (fun k w=>Zeg w ((sinks (Zg.Design b) (k:Int)).length:Int))))
   (fun k x hx hk=>by
    have hn:=ZoW hD (List.mem_of_getElem? hx)
    have hl1:=List.length_filter_le (fun x:Pl=>!x.2.2.2.1) ((places (Zg.Design b)).take k)
    rw [List.length_take] at hl1
    simp only [QV,show (k:Int)<((places (Zg.Design b)).length:Int) from by omega,if_true,Zo,hx,Bq,Znr hx]
    by_cases hd:x.2.2.2.1=true
    ·rw [if_pos hd,if_pos hd,Qb (by omega)]
    ·rw [if_neg hd,if_neg hd,Zel hn.1 (by have:=hn.2;show x.2.2.1<_;omega) (by rw [List.length_map];omega) (F:=fun o=>some (Sum.inl (Wq ((k:Int)+1),o,()))),Qb (by omega)])
   (by
    simp only [QV,Int.lt_irrefl,if_false,List.take_length]
    rw [Qz (YX a3) (fun k w=>Zeg w ((sinks (Zg.Design b) (k:Int)).length:Int)) (bad:=.inr false) (good:=.inr true)
     (fun k w hx hk _=>by
      have hc:(sinks (Zg.Design b) (k:Int)).length=_:=ZiP (k:Int) (places (Zg.Design b)) 0
      simp only [JV,show (k:Int)<((Zg.Qo b).length:Int) from by omega,if_true,Zo,hx,Bq]
      rw [ZcV hk,Bq,Zi9 w _ (Zfk a3 hx),Bq,hc]
      constructor
      ·intro hh;rw [if_pos (Z5 hh)]
      ·intro hh;rw [if_neg (fun q=>hh ((YK _).1 q))])
     (fun _=>by simp only [JV,Int.lt_irrefl,if_false])]
    congr 1
    by_cases hh:ZcB (Zg.Qo b) (fun k w=>Zeg w ((sinks (Zg.Design b) (k:Int)).length:Int))
    ·rw [Xk hh,Z5 hh]
    ·rw [YT hh,ZR hh])
  rw [List.take_zero,List.filter_nil,List.map_nil,Zkc] at this
  exact this
 ·unfold Za6
  rw [show ((Zg.Qo b).length:Int)=((Zb.Yb (Zg.Design b)).length:Int)↔(Zg.Qo b).length=(Zb.Yb (Zg.Design b)).length from by omega]
structure VF (b:Zg):Prop where
 ok:Za6 b
 sm:sm YG b
/-
  Plain laws: what a place asks of its net; loads are always told.
-/
theorem ZBT {α τ ρ:Type} {l:List α} (I:Nat→τ→Prop) (Q:ρ→Prop) {step:τ→Option (τ ⊕ ρ)} {v:τ} (h0:I 0 v)
  (hs:∀ (k:Nat) (x:α) (v:τ),l[k]?=some x→k<l.length→I k v→∃ v',step v=some (.inl v')∧I (k+1) v')
  (hx:∀ v,I l.length v→∃ r,step v=some (.inr r)∧Q r):∃ r,Zl step v=some r∧Q r :=
 Qa l.length I Q h0 (fun k v hk hI=>.inl (hs k l[k] v (List.getElem?_eq_getElem hk) hk hI)) hx
theorem ZBR {α:Type} {l:List α} {i:Int} (h0:0≤i) (h1:i<(l.length:Int)):∃ x,atI l i=some x∧x∈l:=by
 obtain ⟨x,h2,h3⟩:=Zn4 h0 h1
 exact ⟨x,h2,List.mem_of_getElem? h3⟩
theorem ZBs {a:Zn} {d:Zb} (h:Jb a d) {x:Pl} (hx:x∈places d):∃ n,Zwu d a x=some n:=by
 unfold Zwu
 split
 ·exact ⟨_,rfl⟩
 ·rename_i hneg
  unfold places at hx
  rcases List.mem_append.1 hx with hx | hx
  ·obtain ⟨i,z,hi,hz⟩:=ZdB.1 hx
   unfold ZdR at hz
   obtain ⟨j,n,hj,hn⟩:=ZdB.1 hz
   simp only [List.mem_singleton] at hn
   subst hn
   rw [Nat.zero_add] at hneg
   obtain ⟨hc,⟨c,hc1,hc2⟩,_⟩:=h.2.2.1 z (List.mem_of_getElem? hi)
   have hj2:=(List.getElem?_eq_some_iff.1 hj).1
   simp only [QD.instance,QD.pin,Nat.zero_add,Zo,hi,Bq]
   rw [Zbh hc.1 hc1,Bq]
   have hp:(Zf.Ye c)[j]?=some (Zf.Ye c)[j]:=List.getElem?_eq_getElem (by omega)
   rw [hp,Bq]
   exact ⟨_,rfl⟩
  ·obtain ⟨j,p,hj,hp⟩:=ZdB.1 hx
   simp only [Zex,List.mem_singleton] at hp
   subst hp
   exact absurd (by show (-1:Int)<0;omega) hneg
theorem ZBr {d:Zb} {net y:Int} (h:y∈sinks d net):0≤y∧y<((places d).length:Int):=by
 obtain ⟨k,x,hk,hy⟩:=ZdB.1 h
 have:=(List.getElem?_eq_some_iff.1 hk).1
 unfold ZkE at hy
 split at hy
 ·split at hy
  ·cases hy
  ·simp only [List.mem_singleton] at hy;omega
 ·cases hy
theorem ZAI {b:Zg} (h:VF b) {k:Nat} {w:Zz} (hw:(Zg.Qo b)[k]?=some w):∃ r,ZvL b (k:Int)=some r∧r.length=(Zz.Parent w).length:=by
 have hW:=h.ok.2.2 k w hw
 have hD:=h.ok.1
 have hf:=hD.few
 obtain ⟨⟨l1,l8⟩,lr,lc,ls,ht,ar,ac,asn⟩:=hW
 have hpl:=ZeM hf
 have hsl:=Zo6 (k:Int) (places (Zg.Design b)) 0
 have hsl2:(sinks (Zg.Design b) (k:Int)).length≤78:=by unfold sinks;omega
 unfold ZvL
 rw [Zo,hw,Bq]
 unfold ZvW
 rw [Zi (by simp;omega),Bq,Zer _ hf,Bq,ZwV _ _ hf,Bq]
 refine ZBT (l:=sinks (Zg.Design b) (k:Int)) (fun m v=>v.1=(m:Int)∧v.2.1.length=(Zz.Parent w).length) _ ⟨rfl,by simp;omega⟩ ?_ ?_
 ·rintro m y ⟨i,l,⟨⟩⟩ hy hm ⟨hi,hl⟩
  simp only at hi hl
  subst hi
  have hz:(Zz.Zj6 w)[m]?=some (Zz.Zj6 w)[m]:=List.getElem?_eq_getElem (by omega)
  generalize (Zz.Zj6 w)[m]=z at hz
  have hz2:=asn z (List.mem_of_getElem? hz)
  obtain ⟨q,hq1,_⟩:=ZBR (l:=l) hz2.1 (by omega)
  obtain ⟨hy1,hy2⟩:=ZBr (List.mem_of_getElem? hy)
  obtain ⟨p,hp1,hp2⟩:=ZBR hy1 hy2
  obtain ⟨c,hc⟩:=ZBs hD hp2
  simp only [ZvS,show (m:Int)<((sinks (Zg.Design b) (k:Int)).length:Int) from by omega,if_true,Zo,hy,hz,Bq,hq1,hp1,hc]
  exact ⟨_,rfl,by rw [Qb (by omega)],by simp [hl]⟩
 ·rintro ⟨i,l,⟨⟩⟩ ⟨hi,hl⟩
  simp only at hi hl
  subst hi
  simp only [ZvS,Int.lt_irrefl,if_false]
  have:=Zj2 (σ:=Int×List Int×Unit) (ρ:=(Int×List Int×Unit) ⊕ List Int) (step:=fun v=>Zv9 w v.1 v.2.1) (fun v=>(∃ j:Nat,v.1=(j:Int)∧j<(Zz.Parent w).length)∧v.2.1.length=(Zz.Parent w).length) (fun v=>v.1.toNat) (fun r=>∃ r',r=.inr r'∧r'.length=(Zz.Parent w).length) (v:=(Wq ((l.length:Int)-1),l,()))
   ⟨⟨l.length-1,by show Wq _=_;rw [ZkX (by omega) (by omega)],by omega⟩,hl⟩
   (by
    rintro ⟨i,l,⟨⟩⟩ ⟨⟨j,hj,hj2⟩,hl⟩
    simp only at hj hl
    subst hj
    simp only [Zv9]
    by_cases h0:(0:Int)<(j:Int)
    ·rw [if_pos h0]
     have hp:(Zz.Parent w)[j]?=some (Zz.Parent w)[j]:=List.getElem?_eq_getElem (by omega)
     generalize (Zz.Parent w)[j]=p at hp
     have hp2:=(ht j p hp).2 (by omega)
     obtain ⟨q,hq1,_⟩:=ZBR (l:=l) hp2.1 (by omega)
     have hl2:l[j]?=some l[j]:=List.getElem?_eq_getElem (by omega)
     simp only [Zo,hp,Bq,hq1,hl2]
     left
     refine ⟨_,rfl,⟨⟨j-1,by rw [ZkX (by omega) (by omega)],by omega⟩,by simp [hl]⟩,?_⟩
     show (Wq ((j:Int)-1)).toNat<((j:Int)).toNat
     rw [ZkX (by omega) (by omega)];omega
    ·rw [if_neg h0]
     right
     exact ⟨_,rfl,_,rfl,hl⟩)
  obtain ⟨r,h1,r',rfl,h3⟩:=this
  exact ⟨r',h1,h3⟩
/-
  Plain laws: the place that drives a net.
-/
theorem Zep {α:Type} {p:α→Bool} {l:List α} {k:Nat} {x:α} (hx:l[k]?=some x) (hp:p x=true) (hf:∀ (j:Nat) (y:α),j<k→l[j]?=some y→p y=false):Xd p l=(k:Int):=by
 have hk:=(List.getElem?_eq_some_iff.1 hx)
 have:l.findIdx? p=some k:=by
  rw [List.findIdx?_eq_some_iff_getElem]
  refine ⟨hk.1,by rw [hk.2];exact hp,fun j hj=>?_⟩
  have:=hf j (l[j]'(by have:=hk.1;omega)) hj (List.getElem?_eq_getElem _)
  simp [this]
 unfold Xd
 rw [this]
theorem Zhb (d:Zb) (n:Int) (h:Few d):ZaP d n=some (Xd (fun x:Pl=>decide (x.2.2.1=n)&&x.2.2.2.1) (places d)):=by
 have hpl:=ZeM h
 unfold ZaP
 rw [ZaA d h,Bq]
 refine Vv (out:=fun i=>i) (show Len (places d) by show List.length _≤_;omega) (fun k x hx=>?_) ?_
 ·have hk:=(List.getElem?_eq_some_iff.1 hx).1
  simp only [VQ,show (k:Int)<((places d).length:Int) from by omega,if_true,Zo,hx,Bq,Bool.and_eq_true,decide_eq_true_eq]
  split
  ·rename_i e1
   split
   ·rename_i e2;rw [if_pos ⟨e1,e2⟩]
   ·rename_i e2;rw [if_neg (fun q=>e2 q.2)]
  ·rename_i e1;rw [if_neg (fun q=>e1 q.1)]
 ·simp only [VQ,Int.lt_irrefl,if_false]
theorem ZlU {i:Nat} {x:Zd} {a:Zn} {d:Zb} (hl:ZkU a) (h:ZdO a d x) (hsm:(Zd.Yb x).length≤1048576):((ZdR i x).filter (fun y=>y.2.2.2.1)).map (fun y=>y.2.2.1)=[Yc x]:=by
 obtain ⟨_,⟨c,hc,hn⟩,_⟩:=h
 have h2:2≤(Zf.Ye c).length:=(hl.2.1 c (List.mem_of_getElem? hc)).2.1.1
 unfold ZdR Yc
 rw [ZkX hsm (by omega)]
 generalize hN:Zd.Yb x=l
 rw [hN] at hn
 have hne:l.length≠0:=by omega
 have gen:∀ (l:List Int) (m n:Nat),m+l.length=n+1→l.length≠0→((cat (fun j n'=>[((i:Int),(j:Int),n',decide ((j:Int)=((n:Nat):Int)),())]) m l).filter (fun y:Pl=>y.2.2.2.1)).map (fun y=>y.2.2.1)=[l.getLastD 0]:=by
  intro l
  induction l with
  | nil=>intro m n _ h0;simp at h0
  | cons y r ih =>
   intro m n hm _
   by_cases hr:r=[]
   ·subst hr
    simp only [List.length_cons,List.length_nil] at hm
    have:(m:Int)=(n:Int):=by omega
    simp [cat,this]
   ·have hrl:r.length≠0:=fun e=>hr (List.eq_nil_of_length_eq_zero e)
    simp only [List.length_cons] at hm
    have hmn:¬(m:Int)=(n:Int):=by omega
    have:=ih (m+1) n (by omega) hrl
    simp only [cat,List.cons_append,List.nil_append]
    rw [List.filter_cons_of_neg (by simp [hmn]),this]
    cases r with
    | nil=>exact absurd rfl hr
    | cons z q=>simp [List.getLastD_cons]
 exact gen l 0 (l.length-1) (by omega) hne
theorem ZlV (j:Nat) (p:ZN):((Zex j p).filter (fun y=>y.2.2.2.1)).map (fun y=>y.2.2.1)=if ZN.Dir p=1 then [ZN.Net p] else []:=by
 unfold Zex
 by_cases h:ZN.Dir p=1
 ·simp [h]
 ·simp [h]
theorem Znk {a:Zn} {d:Zb} (h:Jb a d) (hsm:sm Yv d):((places d).filter (fun y=>y.2.2.2.1)).map (fun y=>y.2.2.1)=ZpH d:=by
 unfold places ZpH
 rw [List.filter_append,List.map_append]
 congr 1
 ·have:∀ (l:List Zd) (m:Nat),(∀ x∈l,ZdO a d x∧(Zd.Yb x).length≤1048576)→((cat ZdR m l).filter (fun y=>y.2.2.2.1)).map (fun y=>y.2.2.1)=l.map Yc:=by
   intro l
   induction l with
   | nil=>intro m _;rfl
   | cons x r ih =>
    intro m hl
    have hx:=hl x (by simp)
    simp only [cat,List.filter_append,List.map_append,List.map_cons]
    rw [ZlU h.1 hx.1 hx.2,ih (m+1) (fun y hy=>hl y (by simp [hy]))]
    rfl
  exact this _ 0 (fun x hx=>⟨h.2.2.1 x hx,Zv (ZjX (Zlx (ZeQ hsm).1 hx)).2⟩)
 ·have:∀ (l:List ZN) (m:Nat),((cat Zex m l).filter (fun y=>y.2.2.2.1)).map (fun y=>y.2.2.1)=(l.filter (fun p=>decide (ZN.Dir p=1))).map ZN.Net:=by
   intro l
   induction l with
   | nil=>intro m;rfl
   | cons p r ih =>
    intro m
    simp only [cat,List.filter_append,List.map_append]
    rw [ZlV,ih (m+1)]
    by_cases hd:ZN.Dir p=1
    ·simp [hd]
    ·simp [hd]
  exact this _ 0
theorem ZeG {α:Type} {p:α→Bool} {l:List α} {i j:Nat} {a b:α} (hij:i<j) (ha:l[i]?=some a) (hb:l[j]?=some b) (pa:p a=true) (pb:p b=true):2≤l.countP p:=by
 have e:l.countP p=(l.take j).countP p+(l.drop j).countP p:=by rw [←List.countP_append,List.take_append_drop]
 have h1:0<(l.take j).countP p:=List.countP_pos_iff.2 ⟨a,List.mem_iff_getElem?.2 ⟨i,by rw [List.getElem?_take,if_pos hij];exact ha⟩,pa⟩
 have h2:0<(l.drop j).countP p:=List.countP_pos_iff.2 ⟨b,List.mem_iff_getElem?.2 ⟨0,by rw [List.getElem?_drop];exact hb⟩,pb⟩
 omega
def ZpG (n:Int) (x:Pl):Bool:=decide (x.2.2.1=n)&&x.2.2.2.1
def ZrT (d:Zb) (n:Int):Int:=Xd (ZpG n) (places d)
theorem Zoq {a:Zn} {d:Zb} (h:Jb a d) (hsm:sm Yv d) {v:Nat} (hv:v<(Zb.Yb d).length):(places d).countP (ZpG (v:Int))=1:=by
 have h1:=h.2.2.2.2 _ (List.mem_of_getElem? (ZcV (s:=ZpH d) hv))
 rw [←Znk h hsm,List.countP_map,List.countP_filter] at h1
 have e:(places d).countP (ZpG (v:Int))=(places d).countP (fun y=>((fun x=>decide (x=(v:Int)))∘fun y:Pl=>y.2.2.1) y&&y.2.2.2.1):=rfl
 rw [e]
 omega
theorem ZrU {a:Zn} {d:Zb} (h:Jb a d) (hsm:sm Yv d) {v:Nat} (hv:v<(Zb.Yb d).length) :
  ∃ (q:Nat) (y:Pl),(places d)[q]?=some y∧ZpG (v:Int) y=true∧ZrT d (v:Int)=(q:Int)∧∀ (p:Nat) (z:Pl),(places d)[p]?=some z→ZpG (v:Int) z=true→p=q:=by
 have hc:=Zoq h hsm hv
 obtain ⟨y,hy,hp⟩:=List.countP_pos_iff.1 (show 0<(places d).countP (ZpG (v:Int)) by omega)
 obtain ⟨q,hq⟩:=List.mem_iff_getElem?.1 hy
 have uniq:∀ (p:Nat) (z:Pl),(places d)[p]?=some z→ZpG (v:Int) z=true→p=q:=by
  intro p z hz hpz
  rcases Nat.lt_trichotomy p q with hlt | he | hlt
  ·have:=ZeG hlt hz hq hpz hp;omega
  ·exact he
  ·have:=ZeG hlt hq hz hp hpz;omega
 refine ⟨q,y,hq,hp,Zep hq hp (fun j z hj hz=>?_),uniq⟩
 cases hb:ZpG (v:Int) z
 ·rfl
 ·have:=uniq j z hz hb;omega
end Go.Proofs.YtjfbeebdhmebpaaGreatDoor
