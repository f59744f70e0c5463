/-
  Plain laws: designs.
-/
import Derived.Test.YtfndhpjedmopdaaGreatDoorLB
namespace Go.Proofs.YtfndhpjedmopdaaGreatDoor
set_option linter.unusedVariables false
set_option linter.unusedSimpArgs false
open Go Go.Sx
theorem Zcm {d:Zb} (h:sm Yn d):sm (.sl Z0) (Zb.Instances d)∧sm (.sl J5) (Zb.ZQ d)∧sm (.sl .str) (Zb.ZM d):=by
 refine ⟨?_,?_,?_⟩
 ·first | exact h.1 | exact h.2.1 | exact h.2.2.1 | exact h.2.2.2.1
 ·first | exact h.1 | exact h.2.1 | exact h.2.2.1 | exact h.2.2.2.1
 ·first | exact h.1 | exact h.2.1 | exact h.2.2.1 | exact h.2.2.2.1
theorem Zky {x:Zd} (h:sm Z0 x):sm .str (Zd.Name x)∧sm (.sl (.int .i64)) (Zd.ZM x):=by
 refine ⟨?_,?_⟩
 ·first | exact h.1 | exact h.2.1 | exact h.2.2.1 | exact h.2.2.2.1
 ·first | exact h.1 | exact h.2.1 | exact h.2.2.1 | exact h.2.2.2.1
theorem ZwV {x:ZV} (h:sm J5 x):sm .str (ZV.Name x):=by
 first | exact h.1 | exact h.2.1 | exact h.2.2.1 | exact h.2.2.2.1
theorem Zg5 (d:Zb) (h:sm Yn d):QS d=some (tr (Zj7 d)):=by
 obtain ⟨h1,h2,h3⟩:=Zcm h
 have s1:=Zm h1
 have s2:=Zm h2
 have s3:=Zm h3
 unfold QS
 refine gather (l:=Zb.Instances d) s1 Zd.Name (fun k x o hx hk ho=>?_) ?_
 ·simp only [XI,hk,if_true,Zu,hx,Option.bind_some]
 simp only [XI,Int.lt_irrefl,if_false]
 have hi:(Za7 d).length=(Zb.Instances d).length:=by simp [Za7]
 have hp:(ZcV d).length=(Zb.ZQ d).length:=by simp [ZcV]
 refine gather (l:=Zb.ZQ d) s2 ZV.Name (fun k x o hx hk ho=>?_) ?_
 ·simp only [XF,hk,if_true,Zu,hx,Option.bind_some]
 simp only [XF,Int.lt_irrefl,if_false]
 rw [show List.map ZV.Name (Zb.ZQ d)=ZcV d from rfl,show List.map Zd.Name (Zb.Instances d)=Za7 d from rfl]
 simp only [hi,hp,Zbr _ (show (Za7 d).length≤4611686018427387904 by omega),Zbr _ (show (ZcV d).length≤4611686018427387904 by omega),Zbr _ (show (Zb.ZM d).length≤4611686018427387904 by omega),Option.bind_some]
 unfold Zj7
 rw [hi,hp]
 by_cases a:(Zb.Instances d).length≤14
 ·rw [if_pos (by omega)]
  by_cases b:(Zb.ZM d).length≤30
  ·rw [if_pos (by omega)]
   by_cases c:(Zb.ZQ d).length≤8
   ·rw [if_pos (by omega)]
    by_cases e:VK (Za7 d) (Zb.Instances d).length
    ·rw [if_pos (YL e)]
     by_cases f:VK (Zb.ZM d) (Zb.ZM d).length
     ·rw [if_pos (YL f)]
      congr 3
      exact V9 ⟨fun q=>⟨a,b,c,e,f,q⟩,fun q=>q.2.2.2.2.2⟩
     ·rw [if_neg (by rw [Yk f];simp),Yk (fun q=>f q.2.2.2.2.1)]
    ·rw [if_neg (by rw [Yk e];simp),Yk (fun q=>e q.2.2.2.1)]
   ·rw [if_neg (by omega),Yk (fun q=>c q.2.2.1)]
  ·rw [if_neg (by omega),Yk (fun q=>b q.2.1)]
 ·rw [if_neg (by omega),Yk (fun q=>a q.1)]
def Zmg (n:Nat) (s:List Int):List Int:=(List.range n).map (fun (j:Nat)=>((s.countP (fun x=>decide (x=(j:Int))):Nat):Int))
theorem Zhl (n:Nat) (s:List Int):(Zmg n s).length=n:=by simp [Zmg]
theorem Zqc (n:Nat):Zmg n []=List.replicate n 0:=by
 apply List.ext_getElem?
 intro i
 simp only [Zmg,List.countP_nil,List.getElem?_map,List.getElem?_replicate,List.getElem?_range]
 by_cases h:i<n
 ·simp [h]
 ·simp [h]
theorem ZiJ {n:Nat} {s:List Int} {j:Nat} (h:j<n):(Zmg n s)[j]?=some ((s.countP (fun x=>decide (x=(j:Int))):Nat):Int):=by
 simp [Zmg,h]
theorem ZxG {n:Nat} {s:List Int} {x:Int} (h0:0≤x) (h1:x<(n:Int)):atI (Zmg n s) x=some ((s.countP (fun y=>decide (y=x)):Nat):Int):=by
 refine Qu h0 ?_
 rw [ZiJ (by omega),show ((x.toNat:Nat):Int)=x by omega]
theorem ZvX {n:Nat} {s:List Int} {x:Int} (h0:0≤x) (h1:x<(n:Int)):List.set (Zmg n s) (Int.toNat x) (((s.countP (fun y=>decide (y=x)):Nat):Int)+1)=Zmg n (s++[x]):=by
 apply List.ext_getElem?
 intro i
 rw [List.getElem?_set]
 by_cases hi:i<n
 ·rw [ZiJ hi,ZiJ hi,List.countP_append,Zhl]
  by_cases e:x.toNat=i
  ·subst e
   rw [if_pos rfl,if_pos (by omega),show ((x.toNat:Nat):Int)=x by omega]
   simp
  ·rw [if_neg e]
   have:¬x=(i:Int):=by omega
   simp [List.countP_cons,this]
 ·have h1:(Zmg n s)[i]?=none:=by rw [List.getElem?_eq_none];rw [Zhl];omega
  have h2:(Zmg n (s++[x]))[i]?=none:=by rw [List.getElem?_eq_none];rw [Zhl];omega
  rw [h1,h2]
  split
  ·split
   ·rename_i h3;rw [Zhl] at h3;omega
   ·rfl
  ·rfl
theorem Zh6 {n:Nat} {s:List Int} {x:Int} (h0:0≤x) (h1:x<(n:Int)) (hs:s.length≤1048576000) {τ:Type} (F:List Int→Option τ) :
  ((atI (Zmg n s) x).bind fun y=>F (List.set (Zmg n s) (Int.toNat x) (IntKind.i64.wrap (y+1))))=F (Zmg n (s++[x])):=by
 have h2:=List.countP_le_length (p:=fun y=>decide (y=x)) (l:=s)
 rw [ZxG h0 h1,Option.bind_some,V7 (by omega) (by omega),ZvX h0 h1]
def XY (x:Zd):Int:=(Zd.ZM x).getLastD 0
def ZbN (d:Zb) (n:Int):Prop:=0≤n∧n≤((Zb.ZM d).length:Int)-1
def Zi7 (a:Zk) (d:Zb) (x:Zd):Prop :=
 (0≤Zd.Cell x∧Zd.Cell x≤((Zk.Cells a).length:Int)-1)∧(∃ c,(Zk.Cells a)[(Zd.Cell x).toNat]?=some c∧(Zd.ZM x).length=(Zi.Yx c).length)∧∀ n∈Zd.ZM x,ZbN d n
def Zjj (d:Zb) (p:ZV):Prop:=(1≤ZV.Dir p∧ZV.Dir p≤2)∧ZbN d (ZV.Net p)
def Zm0 (d:Zb):List Int:=(Zb.Instances d).map XY++((Zb.ZQ d).filter (fun p=>decide (ZV.Dir p=1))).map ZV.Net
def ZgG (d:Zb):Prop:=∀ x∈Zmg (Zb.ZM d).length (Zm0 d),x=1
def QF (a:Zk) (d:Zb):Prop:=Zr8 a∧Zj7 d∧(∀ x∈Zb.Instances d,Zi7 a d x)∧(∀ p∈Zb.ZQ d,Zjj d p)∧ZgG d
theorem Zi7.last {a:Zk} {d:Zb} {x:Zd} (h:Zi7 a d x) (hl:Zr8 a) (hsm:(Zd.ZM x).length≤1048576):atI (Zd.ZM x) (IntKind.i64.wrap (((Zd.ZM x).length:Int)-1))=some (XY x)∧ZbN d (XY x):=by
 obtain ⟨_,⟨c,hc,hn⟩,hall⟩:=h
 have h2:2≤(Zi.Yx c).length:=(hl.2.1 c (List.mem_of_getElem? hc)).2.1.1
 unfold XY
 cases hN:Zd.ZM x with
 | nil=>rw [hN] at hn;simp at hn;omega
 | cons y r =>
  rw [hN] at hsm
  rw [Zrb hsm (by simp),Zu]
  have e:(y::r)[(y::r).length-1]?=some ((y::r).getLastD 0):=by
   rw [←List.getLast?_eq_getElem?,List.getLastD_eq_getLast?,List.getLast?_cons];rfl
  exact ⟨e,hall _ (by rw [hN];exact List.mem_of_getElem? e)⟩
theorem Zc0 (d:Zb) (n:Int) (h:sm Yn d):YC d n=some (tr (ZbN d n)):=by
 have s3:=Zm (Zcm h).2.2
 unfold YC
 rw [show YR (Zb.ZM d)=some ((Zb.ZM d).length:Int) from rfl,Option.bind_some,V7 (by omega) (by omega)]
 exact Zbj (VR _ _ _)
theorem Zgr (d:Zb) (a:Zk) (x:Zd) (hd:sm Yn d) (ha:sm YH a) (hx:sm Z0 x):JX d a x=some (tr (Zi7 a d x)):=by
 have sa:=Zm (ZoJ ha)
 unfold JX
 rw [show Y8 (Zk.Cells a)=some ((Zk.Cells a).length:Int) from rfl,Option.bind_some,V7 (by omega) (by omega)]
 refine JA (P:=(0≤Zd.Cell x∧Zd.Cell x≤((Zk.Cells a).length:Int)-1)∧Zi7 a d x) (YW (VR _ _ _) (fun hw=>?_)) ⟨fun q=>q.2,fun q=>⟨q.1,q⟩⟩
 obtain ⟨c,hc1,hc2⟩:=ZsL hw.1 (show Zd.Cell x<((Zk.Cells a).length:Int) by omega)
 rw [hc1,Option.bind_some]
 refine JA (P:=((Zd.ZM x).length:Int)=((Zi.Yx c).length:Int)∧∀ n∈Zd.ZM x,ZbN d n) (Yj (fun he=>?_)) ?_
 ·rw [Qt (XK (Zky hx).2) (fun n=>!tr (ZbN d n)) (fun n _=>by
   unfold YT
   show (YC d n).bind _=_
   rw [Zc0 d n hd];rfl),Option.bind_some]
  refine ZcR ?_
  rw [Bool.not_eq_true',List.any_eq_false]
  constructor
  ·intro q n hn
   have:=q n hn
   simp only [Bool.not_eq_true',Bool.not_eq_false] at this
   exact (Qs _).1 this
  ·intro q n hn
   simp only [Bool.not_eq_true',Bool.not_eq_false]
   exact YL (q n hn)
 ·constructor
  ·rintro ⟨q1,q2⟩;exact ⟨hw,⟨c,hc2,by omega⟩,q2⟩
  ·rintro ⟨_,⟨c',q1,q2⟩,q3⟩
   rw [hc2] at q1;injection q1 with q1;subst q1
   exact ⟨by omega,q3⟩
theorem ZsM {d:Zb} {k:Nat} {p:ZV} (hx:(Zb.ZQ d)[k]?=some p) (s:List Int) :
  s++(((Zb.ZQ d).take (k+1)).filter (fun p=>decide (ZV.Dir p=1))).map ZV.Net=(if ZV.Dir p=1 then (s++(((Zb.ZQ d).take k).filter (fun p=>decide (ZV.Dir p=1))).map ZV.Net)++[ZV.Net p] else s++(((Zb.ZQ d).take k).filter (fun p=>decide (ZV.Dir p=1))).map ZV.Net):=by
 rw [Yt hx,List.filter_append,List.map_append]
 by_cases h:ZV.Dir p=1
 ·rw [if_pos h];simp [h]
 ·rw [if_neg h];simp [h]
theorem Zul {d:Zb} (k m:Nat):(((Zb.Instances d).take m).map XY++(((Zb.ZQ d).take k).filter (fun p=>decide (ZV.Dir p=1))).map ZV.Net).length≤(Zb.Instances d).length+(Zb.ZQ d).length:=by
 have h:=List.length_filter_le (fun p=>decide (ZV.Dir p=1)) ((Zb.ZQ d).take k)
 simp only [List.length_append,List.length_map,List.length_take] at h ⊢
 omega
theorem Zmd (a:Zk) (d:Zb) (ha:sm YH a) (hd:sm Yn d):ZcG a d=some (tr (QF a d)):=by
 obtain ⟨h1,h2,h3⟩:=Zcm hd
 have s1:=Zm h1
 have s2:=Zm h2
 have s3:=Zm h3
 unfold ZcG
 refine JA (P:=Zr8 a∧Zj7 d∧(Zgw (Zb.Instances d) (fun _ x=>Zi7 a d x)∧(Zgw (Zb.ZQ d) (fun _ p=>Zjj d p)∧ZgG d))) (YW (ZkU a ha) (fun hL=>YW (Zg5 d hd) (fun hN=>?_))) (by rw [Ze2,Ze2];exact Iff.rfl)
 rw [Zh (by omega),Zh (by omega),Zh (by omega),Zh (by omega)]
 have:=ZiP (l:=Zb.Instances d) (ρ:=Bool) (fun k=>((k:Int),Zmg (Zb.ZM d).length (((Zb.Instances d).take k).map XY),())) (fun _ x=>Zi7 a d x) (step:=fun v=>Vj a d v.1 v.2.1) (bad:=false) (good:=tr (Zgw (Zb.ZQ d) (fun _ p=>Zjj d p)∧ZgG d))
  (fun k x hx hk _=>by
   have hsx:=ZaM h1 hx
   simp only [Vj,show (k:Int)<((Zb.Instances d).length:Int) from by omega,if_true,Zu,hx,Option.bind_some,Zgr d a x hd ha hsx]
   constructor
   ·intro hh
    obtain ⟨e1,e2⟩:=hh.last hL (Zm (Zky hsx).2)
    rw [if_pos (YL hh),e1,Option.bind_some,Zh6 e2.1 (by have:=e2.2;omega) (by simp only [List.length_map,List.length_take];omega) (F:=fun o=>some (Sum.inl (IntKind.i64.wrap ((k:Int)+1),o,()))),Yt hx,List.map_append,Q5 (by omega)]
    rfl
   ·intro hh;rw [if_neg (by rw [Yk hh];simp)])
  (fun hA=>by
   simp only [Vj,Int.lt_irrefl,if_false,List.take_length]
   have:=ZiP (l:=Zb.ZQ d) (ρ:=Int×List Int×Unit ⊕ Bool) (fun k=>((k:Int),Zmg (Zb.ZM d).length ((Zb.Instances d).map XY++(((Zb.ZQ d).take k).filter (fun p=>decide (ZV.Dir p=1))).map ZV.Net),())) (fun _ p=>Zjj d p) (step:=fun v=>Qc d v.1 v.2.1) (bad:=.inr false) (good:=.inr (tr (ZgG d)))
    (fun k p hx hk _=>by
     have hl:=Zul (d:=d) k (Zb.Instances d).length
     rw [List.take_length] at hl
     simp only [Qc,show (k:Int)<((Zb.ZQ d).length:Int) from by omega,if_true,Zu,hx,Option.bind_some,Zc0 d _ hd,ZsM hx]
     by_cases d1:ZV.Dir p=1
     ·simp only [d1,if_true]
      constructor
      ·intro hh
       rw [if_pos (YL hh.2),Zh6 hh.2.1 (by have:=hh.2.2;omega) (by omega) (F:=fun o=>some (Sum.inl (IntKind.i64.wrap ((k:Int)+1),o,()))),Q5 (by omega)]
      ·intro hh
       rw [if_neg (by rw [Yk (fun q=>hh ⟨by omega,q⟩)];simp)]
     ·simp only [d1,if_false]
      by_cases d2:ZV.Dir p=2
      ·simp only [d2,if_true]
       constructor
       ·intro hh
        rw [if_pos (YL hh.2),Q5 (by omega)]
       ·intro hh
        rw [if_neg (by rw [Yk (fun q=>hh ⟨by omega,q⟩)];simp)]
      ·simp only [d2,if_false]
       exact ⟨fun hh=>by have:=hh.1;omega,fun _=>trivial⟩)
    (fun _=>by
     simp only [Qc,Int.lt_irrefl,if_false,List.take_length]
     rw [Jy (show Len _ by show List.length _≤_;rw [Zhl];omega) (fun n=>!decide (n=1)) (fun n _=>rfl),Option.bind_some]
     congr 3
     refine (Zqe ?_).symm
     rw [Bool.not_eq_true',List.any_eq_false]
     simp only [Bool.not_eq_true',Bool.not_eq_false,decide_eq_true_eq,decide_eq_false_iff_not,Classical.not_not]
     exact Iff.rfl)
   refine (show Zt (fun v=>Qc d v.1 v.2.1) ((0:Int),Zmg (Zb.ZM d).length ((Zb.Instances d).map XY),())=_ from (by simpa using this)).trans ?_
   by_cases hP:Zgw (Zb.ZQ d) (fun _ p=>Zjj d p)
   ·rw [Vq hP];congr 2;exact V9 ⟨fun q=>⟨hP,q⟩,fun q=>q.2⟩
   ·rw [Qq hP,Yk (fun q=>hP q.1)])
 rw [Zkl] at this
 refine Eq.trans ?_ this
 rw [List.take_zero,List.map_nil,Zqc]
 rfl
end Go.Proofs.YtfndhpjedmopdaaGreatDoor
/-
  Plain laws: designs by the reference; places.
-/
namespace Go.Proofs.YtfndhpjedmopdaaGreatDoor
set_option linter.unusedVariables false
set_option linter.unusedSimpArgs false
open Go Go.Sx
theorem Zmo (a:Zk) (d:Zb) (ha:sm YH a) (hd:sm Yn d):Zcq a d=some (tr (Zgw (Zb.Instances d) (fun _ x=>Zi7 a d x)∧Zgw (Zb.ZQ d) (fun _ p=>Zjj d p))):=by
 obtain ⟨h1,h2,h3⟩:=Zcm hd
 have s1:=Zm h1
 have s2:=Zm h2
 have s3:=Zm h3
 have sa:=Zm (ZoJ ha)
 have e1:IntKind.i64.wrap (((Zb.ZM d).length:Int)-1)=((Zb.ZM d).length:Int)-1:=V7 (by omega) (by omega)
 have e2:IntKind.i64.wrap (((Zk.Cells a).length:Int)-1)=((Zk.Cells a).length:Int)-1:=V7 (by omega) (by omega)
 unfold Zcq
 rw [J4 (XK h1) (fun _ x=>Zi7 a d x) (bad:=false) (good:=tr (Zgw (Zb.ZQ d) (fun _ p=>Zjj d p)))
  (fun k x hx hk _=>by
   have hsx:=ZaM h1 hx
   simp only [JV,show (k:Int)<((Zb.Instances d).length:Int) from by omega,if_true,Zu,hx,Option.bind_some,Zaz,e2]
   by_cases hc:0≤Zd.Cell x∧Zd.Cell x≤((Zk.Cells a).length:Int)-1
   ·obtain ⟨c,hc1,hc2⟩:=ZsL hc.1 (show Zd.Cell x<((Zk.Cells a).length:Int) by omega)
    rw [if_pos (YL hc),hc1,Option.bind_some]
    by_cases hp:((Zd.ZM x).length:Int)=((Zi.Yx c).length:Int)
    ·rw [if_pos hp,J4 (XK (Zky hsx).2) (fun _ n=>ZbN d n) (bad:=.inr false) (good:=.inl (IntKind.i64.wrap ((k:Int)+1),()))
      (fun j n hn hj _=>by
       simp only [JU,show (j:Int)<((Zd.ZM x).length:Int) from by omega,if_true,Zu,hn,Option.bind_some,Zaz,e1]
       constructor
       ·intro hh;exact if_pos (YL hh)
       ·intro hh;exact if_neg (fun q=>hh ((Qs _).1 q)))
      (fun _=>by simp only [JU,Int.lt_irrefl,if_false])]
     constructor
     ·intro hh;rw [Vq (Ze2.2 hh.2.2)]
     ·intro hh;rw [Qq (fun q=>hh ⟨hc,⟨c,hc2,by omega⟩,Ze2.1 q⟩)]
    ·rw [if_neg hp]
     refine ⟨fun hh=>?_,fun _=>rfl⟩
     obtain ⟨_,⟨c',q1,q2⟩,_⟩:=hh
     rw [hc2] at q1;injection q1 with q1;subst q1
     exact absurd (by omega) hp
   ·rw [if_neg (by rw [Yk hc];simp)]
    exact ⟨fun hh=>absurd hh.1 hc,fun _=>rfl⟩)
  (fun _=>by
   simp only [JV,Int.lt_irrefl,if_false]
   rw [J4 (XK h2) (fun _ p=>Zjj d p) (bad:=.inr false) (good:=.inr true)
    (fun k p hx hk _=>by
     simp only [JJ,show (k:Int)<((Zb.ZQ d).length:Int) from by omega,if_true,Zu,hx,Option.bind_some,Zaz,e1]
     by_cases hc:1≤ZV.Dir p∧ZV.Dir p≤2
     ·rw [if_pos (YL hc)]
      constructor
      ·intro hh;exact if_pos (YL hh.2)
      ·intro hh;exact if_neg (fun q=>hh ⟨hc,(Qs _).1 q⟩)
     ·rw [if_neg (by rw [Yk hc];simp)]
      exact ⟨fun hh=>absurd hh.1 hc,fun _=>rfl⟩)
    (fun _=>by simp only [JJ,Int.lt_irrefl,if_false])]
   congr 1
   by_cases hh:Zgw (Zb.ZQ d) (fun _ p=>Zjj d p)
   ·rw [Vq hh,YL hh]
   ·rw [Qq hh,Yk hh])]
 rw [Zkl]
theorem ZsP {α:Type} {l:List α} {f:α→List UInt8} (h:∀ x∈l,(f x).length≤4611686018427387904):∀ s∈l.map f,s.length≤4611686018427387904:=by
 intro s hs
 obtain ⟨x,hx,rfl⟩:=List.mem_map.1 hs
 exact h x hx
theorem Zme (a:Zk) (d:Zb) (ha:sm YH a) (hd:sm Yn d):ZcI a d=some (tr (QF a d)):=by
 obtain ⟨h1,h2,h3⟩:=Zcm hd
 have s1:=Zm h1
 have s2:=Zm h2
 have s3:=Zm h3
 unfold ZcI
 refine JA (YW (ZlD a ha) (fun hL=>Zhe (fun a1=>Zhe (fun a2=>Zhe (fun a3=>YW (Zmo a d ha hd) (fun hP=>?_))))))
  (P:=Zr8 a∧¬(14:Int)<((Zb.Instances d).length:Int)∧¬(30:Int)<((Zb.ZM d).length:Int)∧¬(8:Int)<((Zb.ZQ d).length:Int)∧(Zgw (Zb.Instances d) (fun _ x=>Zi7 a d x)∧Zgw (Zb.ZQ d) (fun _ p=>Zjj d p))∧(VK (Za7 d) (Za7 d).length∧VK (ZcV d) (ZcV d).length∧VK (Zb.ZM d) (Zb.ZM d).length)∧ZgG d) ?_
 ·have hi:(Za7 d).length=(Zb.Instances d).length:=by simp [Za7]
  have hp:(ZcV d).length=(Zb.ZQ d).length:=by simp [ZcV]
  refine gather (l:=Zb.Instances d) s1 Zd.Name (fun k x o hx hk ho=>?_) ?_
  ·simp only [JC,hk,if_true,Zu,hx,Option.bind_some]
  simp only [JC,Int.lt_irrefl,if_false]
  refine gather (l:=Zb.ZQ d) s2 ZV.Name (fun k x o hx hk ho=>?_) ?_
  ·simp only [JK,hk,if_true,Zu,hx,Option.bind_some]
  simp only [JK,Int.lt_irrefl,if_false]
  rw [show List.map ZV.Name (Zb.ZQ d)=ZcV d from rfl,show List.map Zd.Name (Zb.Instances d)=Za7 d from rfl]
  simp only [Zfm (Za7 d) (by omega) (ZsP (fun x hx=>Zh1 (Zky (ZsJ h1 hx)).1)),Zfm (ZcV d) (by omega) (ZsP (fun x hx=>Zh1 (ZwV (ZsJ h2 hx)))),Zfm (Zb.ZM d) (by omega) (fun s hs=>Zh1 (ZsJ h3 hs)),Option.bind_some]
  by_cases n1:VK (Za7 d) (Za7 d).length
  ·rw [if_pos (YL n1)]
   by_cases n2:VK (ZcV d) (ZcV d).length
   ·rw [if_pos (YL n2)]
    by_cases n3:VK (Zb.ZM d) (Zb.ZM d).length
    ·rw [if_pos (YL n3),Zh (by omega),Zh (by omega),Zh (by omega),Zh (by omega)]
     have:=YF (l:=Zb.Instances d) (ρ:=(List (List UInt8))×Int×Unit ⊕ ((List (List UInt8))×Int×Unit ⊕ Bool)) (fun k=>((k:Int),Zmg (Zb.ZM d).length (((Zb.Instances d).take k).map XY),())) (step:=fun v=>X9 d v.1 v.2.1) (good:=.inr (.inr (tr (ZgG d))))
      (fun k x hx hk=>by
       have hsx:=ZaM h1 hx
       obtain ⟨e1,e2⟩:=(hP.1 k x hx).last hL (Zm (Zky hsx).2)
       simp only [X9,show (k:Int)<((Zb.Instances d).length:Int) from by omega,if_true,Zu,hx,Option.bind_some]
       rw [e1,Option.bind_some,Zh6 e2.1 (by have:=e2.2;omega) (by simp only [List.length_map,List.length_take];omega) (F:=fun o=>some (Sum.inl (IntKind.i64.wrap ((k:Int)+1),o,()))),Yt hx,List.map_append,Q5 (by omega)]
       rfl)
      (by
       simp only [X9,Int.lt_irrefl,if_false,List.take_length]
       have:=YF (l:=Zb.ZQ d) (ρ:=Int×List Int×Unit ⊕ ((List (List UInt8))×Int×Unit ⊕ ((List (List UInt8))×Int×Unit ⊕ Bool))) (fun k=>((k:Int),Zmg (Zb.ZM d).length ((Zb.Instances d).map XY++(((Zb.ZQ d).take k).filter (fun p=>decide (ZV.Dir p=1))).map ZV.Net),())) (step:=fun v=>Qa d v.1 v.2.1) (good:=.inr (.inr (.inr (tr (ZgG d)))))
        (fun k p hx hk=>by
         have hl:=Zul (d:=d) k (Zb.Instances d).length
         rw [List.take_length] at hl
         have hpo:=hP.2 k p hx
         simp only [Qa,show (k:Int)<((Zb.ZQ d).length:Int) from by omega,if_true,Zu,hx,Option.bind_some,ZsM hx]
         by_cases d1:ZV.Dir p=1
         ·simp only [d1,if_true]
          rw [Zh6 hpo.2.1 (by have:=hpo.2.2;omega) (by omega) (F:=fun o=>some (Sum.inl (IntKind.i64.wrap ((k:Int)+1),o,()))),Q5 (by omega)]
         ·simp only [d1,if_false]
          rw [Q5 (by omega)])
        (by
         simp only [Qa,Int.lt_irrefl,if_false,List.take_length]
         rw [J4 (l:=Zmg (Zb.ZM d).length ((Zb.Instances d).map XY++((Zb.ZQ d).filter (fun p=>decide (ZV.Dir p=1))).map ZV.Net)) (show List.length _≤_ by rw [Zhl];omega) (fun _ x=>x=1) (bad:=.inr (.inr (.inr (.inr false)))) (good:=.inr (.inr (.inr (.inr true))))
          (fun k x hx hk _=>by
           simp only [JQ,show (k:Int)<((Zmg (Zb.ZM d).length ((Zb.Instances d).map XY++((Zb.ZQ d).filter (fun p=>decide (ZV.Dir p=1))).map ZV.Net)).length:Int) from by omega,if_true,Zu,hx,Option.bind_some]
           constructor
           ·intro hh;rw [if_pos hh]
           ·intro hh;rw [if_neg hh])
          (fun _=>by simp only [JQ,Int.lt_irrefl,if_false])]
         congr 1
         have e:Zgw (Zmg (Zb.ZM d).length ((Zb.Instances d).map XY++((Zb.ZQ d).filter (fun p=>decide (ZV.Dir p=1))).map ZV.Net)) (fun _ x=>x=1)↔ZgG d:=by
          rw [Ze2];exact Iff.rfl
         by_cases hh:ZgG d
         ·rw [Vq (e.2 hh),YL hh]
         ·rw [Qq (fun q=>hh (e.1 q)),Yk hh])
       refine (show Zt (fun v=>Qa d v.1 v.2.1) ((0:Int),Zmg (Zb.ZM d).length ((Zb.Instances d).map XY),())=_ from (by simpa using this)).trans ?_
       rfl)
     rw [List.take_zero,List.map_nil,Zqc] at this
     refine (show Zt (fun v=>X9 d v.1 v.2.1) ((0:Int),List.replicate (Zb.ZM d).length 0,())=_ from this).trans ?_
     congr 3
     exact V9 ⟨fun q=>⟨⟨n1,n2,n3⟩,q⟩,fun q=>q.2⟩
    ·rw [if_neg (by rw [Yk n3];simp),Yk (fun q=>n3 q.1.2.2)]
   ·rw [if_neg (by rw [Yk n2];simp),Yk (fun q=>n2 q.1.2.1)]
  ·rw [if_neg (by rw [Yk n1];simp),Yk (fun q=>n1 q.1.1)]
 ·unfold QF Zj7
  rw [Ze2,Ze2]
  constructor
  ·rintro ⟨q1,q2,q3,q4,⟨q5,q6⟩,⟨q7,q8,q9⟩,q10⟩
   exact ⟨q1,⟨by omega,by omega,by omega,q7,q9,q8⟩,q5,q6,q10⟩
  ·rintro ⟨q1,⟨q2,q3,q4,q7,q9,q8⟩,q5,q6,q10⟩
   exact ⟨q1,by omega,by omega,by omega,⟨q5,q6⟩,⟨q7,q8,q9⟩,q10⟩
end Go.Proofs.YtfndhpjedmopdaaGreatDoor
/-
  Plain laws: places, sinks, wires.
-/
namespace Go.Proofs.YtfndhpjedmopdaaGreatDoor
set_option linter.unusedVariables false
set_option linter.unusedSimpArgs false
open Go Go.Sx
def cat {α β:Type} (f:Nat→α→List β):Nat→List α→List β
 | _,[]=>[]
 | k,x::r=>f k x++cat f (k+1) r
theorem ZeL {α β:Type} (f:Nat→α→List β):∀ (l r:List α) (m:Nat),cat f m (l++r)=cat f m l++cat f (m+l.length) r
 | [],r,m=>by simp [cat]
 | x::l,r,m=>by
  simp only [List.cons_append,cat,List.length_cons,ZeL f l r,List.append_assoc]
  rw [show m+1+l.length=m+(l.length+1) by omega]
theorem Zf8 {α β:Type} {f:Nat→α→List β} {l:List α} {k:Nat} {x:α} (hx:l[k]?=some x):cat f 0 (l.take (k+1))=cat f 0 (l.take k)++f k x:=by
 have hk:=(List.getElem?_eq_some_iff.1 hx).1
 rw [Yt hx,ZeL]
 simp only [cat,Nat.zero_add,List.length_take,List.append_nil]
 rw [show min k l.length=k by omega]
theorem ZcZ {α β:Type} {f:Nat→α→List β} {y:β}:∀ {l:List α} {m:Nat},y∈cat f m l↔∃ (k:Nat) (x:α),l[k]?=some x∧y∈f (m+k) x
 | [],m=>by simp [cat]
 | z::r,m=>by
  simp only [cat,List.mem_append,ZcZ (l:=r)]
  constructor
  ·rintro (h | ⟨k,x,h1,h2⟩)
   ·exact ⟨0,z,rfl,h⟩
   ·exact ⟨k+1,x,by simpa using h1,by rw [show m+(k+1)=m+1+k by omega];exact h2⟩
  ·rintro ⟨k,x,h1,h2⟩
   cases k with
   | zero=>simp at h1;subst h1;exact .inl h2
   | succ k=>exact .inr ⟨k,x,by simpa using h1,by rw [show m+1+k=m+(k+1) by omega];exact h2⟩
theorem ZjP {α β:Type} {f:Nat→α→List β} {c:Nat}:∀ {l:List α} {m:Nat},(∀ k,∀ x∈l,(f k x).length≤c)→(cat f m l).length≤c*l.length
 | [],m,_=>by simp [cat]
 | z::r,m,h=>by
  simp only [cat,List.length_append,List.length_cons]
  have h1:=h m z (by simp)
  have h2:=ZjP (f:=f) (l:=r) (m:=m+1) (fun k x hx=>h k x (by simp [hx]))
  rw [Nat.mul_add];omega
theorem ZbF {α β ρ:Type} {l:List α} (f:Nat→α→List β) (acc:List β) {step:List β×Int×Unit→Option ((List β×Int×Unit) ⊕ ρ)} {good:ρ}
  (hs:∀ (k:Nat) (x:α),l[k]?=some x→k<l.length→step (acc++cat f 0 (l.take k),(k:Int),())=some (.inl ((acc++cat f 0 (l.take k))++f k x,((k+1:Nat):Int),())))
  (hx:step (acc++cat f 0 l,(l.length:Int),())=some (.inr good)):Zt step (acc,(0:Int),())=some good:=by
 have:=YF (l:=l) (ρ:=ρ) (fun k=>(acc++cat f 0 (l.take k),(k:Int),())) (step:=step) (good:=good) (fun k x hx hk=>by
  rw [hs k x hx hk,Zf8 hx,List.append_assoc]) (by simp only [List.take_length];exact hx)
 simpa [cat] using this
abbrev Pl:=Int×Int×Int×Bool×Unit
def Y6 (i:Nat) (x:Zd):List Pl:=cat (fun j n=>[((i:Int),(j:Int),n,decide ((j:Int)=IntKind.i64.wrap (((Zd.ZM x).length:Int)-1)),())]) 0 (Zd.ZM x)
def ZcP (j:Nat) (p:ZV):List Pl:=[((-1:Int),(j:Int),ZV.Net p,decide (ZV.Dir p=1),())]
def places (d:Zb):List Pl:=cat Y6 0 (Zb.Instances d)++cat ZcP 0 (Zb.ZQ d)
theorem ZtA (i:Nat) (x:Zd):(Y6 i x).length≤(Zd.ZM x).length:=by
 have:=ZjP (f:=fun j n=>[((i:Int),(j:Int),n,decide ((j:Int)=IntKind.i64.wrap (((Zd.ZM x).length:Int)-1)),())]) (c:=1) (l:=Zd.ZM x) (m:=0) (fun _ _ _=>by simp)
 simpa [Y6] using this
structure Few (d:Zb):Prop where
 insts:(Zb.Instances d).length≤14
 ports:(Zb.ZQ d).length≤8
 nets:∀ x∈Zb.Instances d,(Zd.ZM x).length≤5
theorem QF.few {a:Zk} {d:Zb} (h:QF a d):Few d:=by
 refine ⟨h.2.1.1,h.2.1.2.2.1,fun x hx=>?_⟩
 obtain ⟨_,⟨c,hc,hn⟩,_⟩:=h.2.2.1 x hx
 have:=(h.1.2.1 c (List.mem_of_getElem? hc)).2.1.2.1
 omega
theorem Ze6 {d:Zb} (h:Few d) (k:Nat):(cat Y6 0 ((Zb.Instances d).take k)).length≤70:=by
 have:=ZjP (f:=Y6) (c:=5) (l:=(Zb.Instances d).take k) (m:=0) (fun i x hx=>by
  have h1:=ZtA i x
  have h2:=h.nets x (List.mem_of_mem_take hx)
  omega)
 have h1:=h.insts
 rw [List.length_take] at this
 omega
theorem Zif {d:Zb} (h:Few d) (k:Nat):(cat ZcP 0 ((Zb.ZQ d).take k)).length≤8:=by
 have:=ZjP (f:=ZcP) (c:=1) (l:=(Zb.ZQ d).take k) (m:=0) (fun i x hx=>by simp [ZcP])
 have h1:=h.ports
 rw [List.length_take] at this
 omega
theorem YK {d:Zb} (h:Few d):(places d).length≤78:=by
 have h1:=Ze6 h (Zb.Instances d).length
 have h2:=Zif h (Zb.ZQ d).length
 rw [List.take_length] at h1 h2
 unfold places
 rw [List.length_append];omega
theorem Ye (d:Zb) (h:Few d):Z9 d=some (places d):=by
 have h1:=h.insts
 have h2:=h.ports
 unfold Z9
 refine ZbF (l:=Zb.Instances d) Y6 [] (fun k x hx hk=>?_) ?_
 ·have hn:=h.nets x (List.mem_of_getElem? hx)
  have hl:=Ze6 h k
  simp only [List.nil_append,Qk,show (k:Int)<((Zb.Instances d).length:Int) from by omega,if_true,Zu,hx,Option.bind_some]
  refine ZbF (l:=Zd.ZM x) (fun j n=>[((k:Int),(j:Int),n,decide ((j:Int)=IntKind.i64.wrap (((Zd.ZM x).length:Int)-1)),())]) _ (fun j n hj hk'=>?_) ?_
  ·have hl2:=ZjP (f:=fun j n=>[((k:Int),(j:Int),n,decide ((j:Int)=IntKind.i64.wrap (((Zd.ZM x).length:Int)-1)),())]) (c:=1) (l:=(Zd.ZM x).take j) (m:=0) (fun _ _ _=>by simp)
   rw [List.length_take] at hl2
   simp only [Ql,show (j:Int)<((Zd.ZM x).length:Int) from by omega,if_true,Zu,hj,Option.bind_some]
   rw [Zh (by rw [List.length_append,List.length_singleton];omega),Q5 (by omega)]
  ·simp only [Ql,Int.lt_irrefl,if_false]
   rw [Q5 (by omega)];rfl
 ·have hl:=Ze6 h (Zb.Instances d).length
  rw [List.take_length] at hl
  simp only [List.nil_append,Qk,Int.lt_irrefl,if_false]
  refine ZbF (l:=Zb.ZQ d) ZcP _ (fun j p hj hk'=>?_) ?_
  ·have hl2:=Zif h j
   simp only [Qm,show (j:Int)<((Zb.ZQ d).length:Int) from by omega,if_true,Zu,hj,Option.bind_some]
   rw [Zh (by rw [List.length_append,List.length_singleton];omega),Q5 (by omega)];rfl
  ·simp only [Qm,Int.lt_irrefl,if_false];rfl
theorem Xy (d:Zb) (h:Few d):Y5 d=some (places d):=by
 have h1:=h.insts
 have h2:=h.ports
 unfold Y5
 refine ZbF (l:=Zb.Instances d) Y6 [] (fun k x hx hk=>?_) ?_
 ·have hn:=h.nets x (List.mem_of_getElem? hx)
  have hl:=Ze6 h k
  simp only [List.nil_append,VW,show (k:Int)<((Zb.Instances d).length:Int) from by omega,if_true,Zu,hx,Option.bind_some]
  refine ZbF (l:=Zd.ZM x) (fun j n=>[((k:Int),(j:Int),n,decide ((j:Int)=IntKind.i64.wrap (((Zd.ZM x).length:Int)-1)),())]) _ (fun j n hj hk'=>?_) ?_
  ·have hl2:=ZjP (f:=fun j n=>[((k:Int),(j:Int),n,decide ((j:Int)=IntKind.i64.wrap (((Zd.ZM x).length:Int)-1)),())]) (c:=1) (l:=(Zd.ZM x).take j) (m:=0) (fun _ _ _=>by simp)
   rw [List.length_take] at hl2
   simp only [VQ,show (j:Int)<((Zd.ZM x).length:Int) from by omega,if_true,Zu,hj,Option.bind_some]
   rw [Zh (by rw [List.length_append,List.length_singleton];omega),Q5 (by omega)]
  ·simp only [VQ,Int.lt_irrefl,if_false]
   rw [Q5 (by omega)];rfl
 ·have hl:=Ze6 h (Zb.Instances d).length
  rw [List.take_length] at hl
  simp only [List.nil_append,VW,Int.lt_irrefl,if_false]
  refine ZbF (l:=Zb.ZQ d) ZcP _ (fun j p hj hk'=>?_) ?_
  ·have hl2:=Zif h j
   simp only [V4,show (j:Int)<((Zb.ZQ d).length:Int) from by omega,if_true,Zu,hj,Option.bind_some]
   rw [Zh (by rw [List.length_append,List.length_singleton];omega),Q5 (by omega)];rfl
  ·simp only [V4,Int.lt_irrefl,if_false];rfl
def Za2 (net:Int) (i:Nat) (x:Pl):List Int:=if x.2.2.1=net then (if x.2.2.2.1=true then [] else [(i:Int)]) else []
def sinks (d:Zb) (net:Int):List Int:=cat (Za2 net) 0 (places d)
theorem Zfi (net:Int) (l:List Pl) (m:Nat):(cat (Za2 net) m l).length≤l.length:=by
 have:=ZjP (f:=Za2 net) (c:=1) (l:=l) (m:=m) (fun i x _=>by
  unfold Za2;split
  ·split<;>simp
  ·simp)
 omega
theorem Zfs (d:Zb) (net:Int) (h:Few d):Q9 d net=some (sinks d net):=by
 have hp:=YK h
 unfold Q9
 rw [Ye d h,Option.bind_some]
 refine ZbF (l:=places d) (Za2 net) [] (fun k x hx hk=>?_) ?_
 ·have hl:=Zfi net ((places d).take k) 0
  rw [List.length_take] at hl
  simp only [List.nil_append,QB,show (k:Int)<((places d).length:Int) from by omega,if_true,Zu,hx,Option.bind_some,Za2,Q5 (show k≤1048576 by omega)]
  split
  ·split
   ·rw [List.append_nil]
   ·rw [Zh (by
     show (List.length _+1)*8≤_
     have:(cat (Za2 net) 0 ((places d).take k)).length≤78:=by omega
     omega)]
  ·rw [List.append_nil]
 ·simp only [List.nil_append,QB,Int.lt_irrefl,if_false];rfl
theorem J8 (d:Zb) (net:Int) (h:Few d):X0 d net=some (sinks d net):=by
 have hp:=YK h
 unfold X0
 rw [Xy d h,Option.bind_some]
 refine ZbF (l:=places d) (Za2 net) [] (fun k x hx hk=>?_) ?_
 ·have hl:=Zfi net ((places d).take k) 0
  rw [List.length_take] at hl
  simp only [List.nil_append,Jv,show (k:Int)<((places d).length:Int) from by omega,if_true,Zu,hx,Option.bind_some,Za2,Q5 (show k≤1048576 by omega)]
  split
  ·split
   ·rw [List.append_nil]
   ·rw [Zh (by
     show (List.length _+1)*8≤_
     have:(cat (Za2 net) 0 ((places d).take k)).length≤78:=by omega
     omega)]
  ·rw [List.append_nil]
 ·simp only [List.nil_append,Jv,Int.lt_irrefl,if_false];rfl
theorem ZmT (net:Int):∀ (l:List Pl) (m:Nat),(cat (Za2 net) m l).length=((l.filter (fun x=>!x.2.2.2.1)).map (fun x=>x.2.2.1)).countP (fun y=>decide (y=net))
 | [],m=>by simp [cat]
 | x::r,m=>by
  simp only [cat,List.length_append,ZmT net r,Za2]
  obtain ⟨a,b,n,dr,u⟩:=x
  cases dr
  ·by_cases e:n=net
   ·simp [e,Nat.add_comm]
   ·simp [e]
  ·simp
end Go.Proofs.YtfndhpjedmopdaaGreatDoor
/-
  Plain laws: wires, blocks.
-/
namespace Go.Proofs.YtfndhpjedmopdaaGreatDoor
set_option linter.unusedVariables false
set_option linter.unusedSimpArgs false
open Go Go.Sx
theorem Zjn {w:Zo} (h:sm X6 w):sm (.sl (.int .i64)) (Zo.Parent w)∧sm (.sl (.int .i64)) (Zo.Res w)∧sm (.sl (.int .i64)) (Zo.Cap w)∧sm (.sl (.int .i64)) (Zo.Zfj w):=by
 refine ⟨?_,?_,?_,?_⟩
 all_goals first | exact h.1 | exact h.2.1 | exact h.2.2.1 | exact h.2.2.2.1
theorem Zbm {b:Za} (h:sm YG b):sm YH (Za.Library b)∧sm Yn (Za.Design b)∧sm (.sl X6) (Za.Zy b):=by
 refine ⟨?_,?_,?_⟩
 all_goals first | exact h.1 | exact h.2.1 | exact h.2.2.1 | exact h.2.2.2.1
def ZnY (w:Zo) (k:Nat) (x:Int):Prop:=(k=0→x=-1∧(Zo.Res w)[0]?=some 0)∧(0<k→0≤x∧x≤(k:Int)-1)
def ZbV (w:Zo) (s:Int):Prop :=
 (1≤(Zo.Parent w).length∧(Zo.Parent w).length≤8)∧(Zo.Res w).length=(Zo.Parent w).length∧(Zo.Cap w).length=(Zo.Parent w).length∧((Zo.Zfj w).length:Int)=s∧
 Zgw (Zo.Parent w) (ZnY w)∧ZiB (Zo.Res w) 0 1000∧ZiB (Zo.Cap w) 0 500∧ZiB (Zo.Zfj w) 0 (((Zo.Parent w).length:Int)-1)
theorem Zig (l:List Int) (lo hi:Int) (hl:l.length≤1048576):Xv l lo hi=some (tr (ZiB l lo hi)):=by
 rw [ZcL l lo hi (by omega)]
 exact ZcR (Zkw _ _ _)
theorem Zjx (w:Zo) (hw:sm X6 w) (h1:1≤(Zo.Parent w).length) (h2:(Zo.Res w).length=(Zo.Parent w).length):Zad w=some (tr (Zgw (Zo.Parent w) (ZnY w))):=by
 obtain ⟨a1,a2,a3,a4⟩:=Zjn hw
 have s1:=Zm a1
 unfold Zad
 have hr:(Zo.Res w)[0]?=some (Zo.Res w)[0]:=List.getElem?_eq_getElem (by omega)
 rw [J4 (XK a1) (ZnY w) (bad:=false) (good:=true)
  (fun k x hx hk _=>by
   simp only [Q8,show (k:Int)<((Zo.Parent w).length:Int) from by omega,if_true,Zu,hx,Option.bind_some]
   unfold ZnY
   by_cases hk0:k=0
   ·subst hk0
    rw [if_pos (by rfl),show atI (Zo.Res w) 0=some (Zo.Res w)[0] from hr,hr]
    simp only [Option.bind_some,Option.some.injEq]
    rw [if_neg (show ¬(0:Int)<((0:Nat):Int) by omega)]
    constructor
    ·intro hh
     obtain ⟨q1,q2⟩:=hh.1 trivial
     rw [if_pos q1,if_pos q2]
    ·intro hh
     by_cases q1:x=-1
     ·rw [if_pos q1,if_neg (fun q2=>hh ⟨fun _=>⟨q1,q2⟩,fun h=>by omega⟩)]
     ·rw [if_neg q1]
   ·rw [if_neg (by omega),if_pos (by omega),VR,Option.bind_some,V7 (by omega) (by omega)]
    constructor
    ·intro hh;rw [if_pos (YL (hh.2 (by omega)))]
    ·intro hh;rw [if_neg (fun q=>hh ⟨fun h=>absurd h hk0,fun _=>(Qs _).1 q⟩)])
  (fun _=>by simp only [Q8,Int.lt_irrefl,if_false]),Zkv]
theorem Zjs (w:Zo) (s:Int) (hw:sm X6 w):ZfR w s=some (tr (ZbV w s)):=by
 obtain ⟨a1,a2,a3,a4⟩:=Zjn hw
 have s1:=Zm a1
 have s2:=Zm a2
 have s3:=Zm a3
 have s4:=Zm a4
 unfold ZfR
 simp only [VZ,Option.bind_some,V7 (show (-9223372036854775808:Int)≤((Zo.Parent w).length:Int)-1 by omega) (by omega)]
 refine JA (YW (VR _ _ _) (fun q1=>Yj (fun q2=>Yj (fun q3=>YW (Zjx w hw (by omega) (by omega)) (fun q4=>YW (Zig _ _ _ s2) (fun q5=>YW (Zig _ _ _ s3) (fun q6=>Yj (fun q7=>Zbj (Zig _ _ _ s4))))))))) ?_
 unfold ZbV
 constructor
 ·rintro ⟨q1,q2,q3,q4,q5,q6,q7,q8⟩
  exact ⟨⟨by omega,by omega⟩,by omega,by omega,q7,q4,q5,q6,q8⟩
 ·rintro ⟨q1,q2,q3,q7,q4,q5,q6,q8⟩
  exact ⟨by omega,by omega,by omega,q4,q5,q6,q7,q8⟩
theorem Zsp {l:List Int} {lo hi:Int}:ZiB l lo hi↔∀ (k:Nat) (x:Int),l[k]?=some x→lo≤x∧x≤hi:=by
 unfold ZiB
 constructor
 ·intro h k x hx;exact h x (List.mem_of_getElem? hx)
 ·intro h x hx
  obtain ⟨k,hk⟩:=List.mem_iff_getElem?.1 hx
  exact h k x hk
theorem Zjb (w:Zo) (s:Int) (hw:sm X6 w):Zdi w s=some (tr (ZbV w s)):=by
 obtain ⟨a1,a2,a3,a4⟩:=Zjn hw
 have s1:=Zm a1
 have s2:=Zm a2
 have s3:=Zm a3
 have s4:=Zm a4
 have e1:IntKind.i64.wrap (((Zo.Parent w).length:Int)-1)=((Zo.Parent w).length:Int)-1:=V7 (by omega) (by omega)
 unfold Zdi
 refine JA (Zhe (fun q1=>Zhe (fun q2=>Yj (fun q3=>Yj (fun q4=>Yj (fun q5=>?_)))))) ?_
  (P:=¬((Zo.Parent w).length:Int)<1∧¬(8:Int)<((Zo.Parent w).length:Int)∧((Zo.Res w).length:Int)=((Zo.Parent w).length:Int)∧((Zo.Cap w).length:Int)=((Zo.Parent w).length:Int)∧((Zo.Zfj w).length:Int)=s∧
   (Zgw (Zo.Parent w) (fun k x=>(∀ c,(Zo.Cap w)[k]?=some c→0≤c∧c≤500)∧(∀ r,(Zo.Res w)[k]?=some r→0≤r∧r≤1000)∧ZnY w k x)∧ZiB (Zo.Zfj w) 0 (((Zo.Parent w).length:Int)-1)))
 ·rw [J4 (XK a1) (fun k x=>(∀ c,(Zo.Cap w)[k]?=some c→0≤c∧c≤500)∧(∀ r,(Zo.Res w)[k]?=some r→0≤r∧r≤1000)∧ZnY w k x) (bad:=false) (good:=tr (ZiB (Zo.Zfj w) 0 (((Zo.Parent w).length:Int)-1)))
   (fun k x hx hk _=>by
    have hc:(Zo.Cap w)[k]?=some (Zo.Cap w)[k]:=List.getElem?_eq_getElem (by omega)
    have hr:(Zo.Res w)[k]?=some (Zo.Res w)[k]:=List.getElem?_eq_getElem (by omega)
    simp only [Za0,show (k:Int)<((Zo.Parent w).length:Int) from by omega,if_true,Zu,hc,hr,hx,Option.bind_some,Zaz,Option.some.injEq,forall_eq']
    generalize (Zo.Cap w)[k]=c at hc
    generalize (Zo.Res w)[k]=r at hr
    by_cases qc:0≤c∧c≤500
    ·rw [if_pos (YL qc)]
     by_cases qr:0≤r∧r≤1000
     ·rw [if_pos (YL qr)]
      unfold ZnY
      by_cases hk0:k=0
      ·subst hk0
       rw [if_pos (by rfl),hr]
       simp only [Option.some.injEq]
       rw [if_neg (show ¬(0:Int)<((0:Nat):Int) by omega)]
       constructor
       ·rintro ⟨_,_,hh⟩
        obtain ⟨q1,q2⟩:=hh.1 trivial
        rw [if_pos q1,if_pos q2]
       ·intro hh
        by_cases q1:x=-1
        ·rw [if_pos q1,if_neg (fun q2=>hh ⟨qc,qr,fun _=>⟨q1,q2⟩,fun h=>by omega⟩)]
        ·rw [if_neg q1]
      ·rw [if_neg (by omega),if_pos (by omega),V7 (show (-9223372036854775808:Int)≤(k:Int)-1 by omega) (by omega)]
       constructor
       ·intro hh;rw [if_pos (YL (hh.2.2.2 (by omega)))]
       ·intro hh;rw [if_neg (fun q=>hh ⟨qc,qr,fun h=>absurd h hk0,fun _=>(Qs _).1 q⟩)]
     ·rw [if_neg (fun q=>qr ((Qs _).1 q))]
      exact ⟨fun hh=>absurd hh.2.1 qr,fun _=>rfl⟩
    ·rw [if_neg (fun q=>qc ((Qs _).1 q))]
     exact ⟨fun hh=>absurd hh.1 qc,fun _=>rfl⟩)
   (fun _=>by
    simp only [Za0,Int.lt_irrefl,if_false]
    rw [J4 (XK a4) (fun _ x=>0≤x∧x≤((Zo.Parent w).length:Int)-1) (bad:=.inr false) (good:=.inr true)
     (fun k x hx hk _=>by
      simp only [ZaV,show (k:Int)<((Zo.Zfj w).length:Int) from by omega,if_true,Zu,hx,Option.bind_some,Zaz,e1]
      constructor
      ·intro hh;rw [if_pos (YL hh)]
      ·intro hh;rw [if_neg (fun q=>hh ((Qs _).1 q))])
     (fun _=>by simp only [ZaV,Int.lt_irrefl,if_false])]
    congr 1
    have e:Zgw (Zo.Zfj w) (fun _ x=>0≤x∧x≤((Zo.Parent w).length:Int)-1)↔ZiB (Zo.Zfj w) 0 (((Zo.Parent w).length:Int)-1):=Ze2
    by_cases hh:ZiB (Zo.Zfj w) 0 (((Zo.Parent w).length:Int)-1)
    ·rw [Vq (e.2 hh),YL hh]
    ·rw [Qq (fun q=>hh (e.1 q)),Yk hh]),Zkl]
 ·unfold ZbV
  rw [Zsp (l:=Zo.Res w),Zsp (l:=Zo.Cap w)]
  constructor
  ·rintro ⟨q1,q2,q3,q4,q5,q6,q7⟩
   refine ⟨⟨by omega,by omega⟩,by omega,by omega,q5,fun k x hx=>(q6 k x hx).2.2,fun k r hr=>?_,fun k c hc=>?_,q7⟩
   ·have hk:=(List.getElem?_eq_some_iff.1 hr).1
    exact (q6 k _ (List.getElem?_eq_getElem (by omega))).2.1 r hr
   ·have hk:=(List.getElem?_eq_some_iff.1 hc).1
    exact (q6 k _ (List.getElem?_eq_getElem (by omega))).1 c hc
  ·rintro ⟨q1,q2,q3,q5,q6,q7,q8,q9⟩
   exact ⟨by omega,by omega,by omega,by omega,q5,fun k x hx=>⟨fun c hc=>q8 k c hc,fun r hr=>q7 k r hr,q6 k x hx⟩,q9⟩
def ZkV (b:Za):Prop :=
 QF (Za.Library b) (Za.Design b)∧(Za.Zy b).length=(Zb.ZM (Za.Design b)).length∧Zgw (Za.Zy b) (fun k w=>ZbV w ((sinks (Za.Design b) (k:Int)).length:Int))
theorem Zaw {a:Zk} {d:Zb} (h:QF a d) {x:Pl} (hx:x∈places d):ZbN d x.2.2.1:=by
 unfold places at hx
 rcases List.mem_append.1 hx with hx | hx
 ·obtain ⟨i,z,hi,hz⟩:=ZcZ.1 hx
  unfold Y6 at hz
  obtain ⟨j,n,hj,hn⟩:=ZcZ.1 hz
  simp only [List.mem_singleton] at hn
  subst hn
  exact (h.2.2.1 z (List.mem_of_getElem? hi)).2.2 n (List.mem_of_getElem? hj)
 ·obtain ⟨j,p,hj,hp⟩:=ZcZ.1 hx
  simp only [ZcP,List.mem_singleton] at hp
  subst hp
  exact (h.2.2.2.1 p (List.mem_of_getElem? hj)).2
theorem ZfL (b:Za) (hb:sm YG b):Zb6 b=some (tr (ZkV b)):=by
 obtain ⟨a1,a2,a3⟩:=Zbm hb
 have s3:=Zm a3
 unfold Zb6
 refine JA (YW (Zme _ _ a1 a2) (fun hD=>Yj (fun q1=>?_))) ?_
  (P:=QF (Za.Library b) (Za.Design b)∧((Za.Zy b).length:Int)=((Zb.ZM (Za.Design b)).length:Int)∧Zgw (Za.Zy b) (fun k w=>ZbV w ((sinks (Za.Design b) (k:Int)).length:Int)))
 ·rw [J4 (XK a3) (fun k w=>ZbV w ((sinks (Za.Design b) (k:Int)).length:Int)) (bad:=false) (good:=true)
   (fun k w hx hk _=>by
    simp only [Zah,show (k:Int)<((Za.Zy b).length:Int) from by omega,if_true,Zu,hx,Option.bind_some,J8 _ _ hD.few,Zjb w _ (ZaM a3 hx)]
    constructor
    ·intro hh;rw [if_pos (YL hh)]
    ·intro hh;rw [if_neg (fun q=>hh ((Qs _).1 q))])
   (fun _=>by simp only [Zah,Int.lt_irrefl,if_false]),Zkv]
 ·unfold ZkV
  rw [show ((Za.Zy b).length:Int)=((Zb.ZM (Za.Design b)).length:Int)↔(Za.Zy b).length=(Zb.ZM (Za.Design b)).length from by omega]
theorem Zs4 {l:List Pl} {k:Nat} {x:Pl} (hx:l[k]?=some x) :
  (((l.take (k+1)).filter (fun x=>!x.2.2.2.1)).map (fun x=>x.2.2.1))=if x.2.2.2.1=true then (((l.take k).filter (fun x=>!x.2.2.2.1)).map (fun x=>x.2.2.1)) else (((l.take k).filter (fun x=>!x.2.2.2.1)).map (fun x=>x.2.2.1))++[x.2.2.1]:=by
 rw [Yt hx,List.filter_append,List.map_append]
 by_cases h:x.2.2.2.1=true
 ·rw [if_pos h];simp [h]
 ·rw [if_neg h];simp [h]
theorem Zng (b:Za) (hb:sm YG b):ZdF b=some (tr (ZkV b)):=by
 obtain ⟨a1,a2,a3⟩:=Zbm hb
 have s3:=Zm a3
 unfold ZdF
 refine JA (YW (Zmd _ _ a1 a2) (fun hD=>Yj (fun q1=>?_))) ?_
  (P:=QF (Za.Library b) (Za.Design b)∧((Za.Zy b).length:Int)=((Zb.ZM (Za.Design b)).length:Int)∧Zgw (Za.Zy b) (fun k w=>ZbV w ((sinks (Za.Design b) (k:Int)).length:Int)))
 ·rw [Zh (by omega),Zh (by omega),Zh (by omega),Zh (by omega),Ye _ hD.few,Option.bind_some]
  have hpl:=YK hD.few
  have:=YF (l:=places (Za.Design b)) (ρ:=Bool) (fun k=>((k:Int),Zmg (Za.Zy b).length ((((places (Za.Design b)).take k).filter (fun x=>!x.2.2.2.1)).map (fun x=>x.2.2.1)),())) (step:=fun v=>Vv b (places (Za.Design b)) v.1 v.2.1) (good:=tr (Zgw (Za.Zy b) (fun k w=>ZbV w ((sinks (Za.Design b) (k:Int)).length:Int))))
   (fun k x hx hk=>by
    have hn:=Zaw hD (List.mem_of_getElem? hx)
    have hl1:=List.length_filter_le (fun x:Pl=>!x.2.2.2.1) ((places (Za.Design b)).take k)
    rw [List.length_take] at hl1
    simp only [Vv,show (k:Int)<((places (Za.Design b)).length:Int) from by omega,if_true,Zu,hx,Option.bind_some,Zs4 hx]
    by_cases hd:x.2.2.2.1=true
    ·rw [if_pos hd,if_pos hd,Q5 (by omega)]
    ·rw [if_neg hd,if_neg hd,Zh6 hn.1 (by have:=hn.2;show x.2.2.1<_;omega) (by rw [List.length_map];omega) (F:=fun o=>some (Sum.inl (IntKind.i64.wrap ((k:Int)+1),o,()))),Q5 (by omega)])
   (by
    simp only [Vv,Int.lt_irrefl,if_false,List.take_length]
    rw [J4 (XK a3) (fun k w=>ZbV w ((sinks (Za.Design b) (k:Int)).length:Int)) (bad:=.inr false) (good:=.inr true)
     (fun k w hx hk _=>by
      have hc:(sinks (Za.Design b) (k:Int)).length=_:=ZmT (k:Int) (places (Za.Design b)) 0
      simp only [Zat,show (k:Int)<((Za.Zy b).length:Int) from by omega,if_true,Zu,hx,Option.bind_some]
      rw [ZiJ hk,Option.bind_some,Zjs w _ (ZaM a3 hx),Option.bind_some,hc]
      constructor
      ·intro hh;rw [if_pos (YL hh)]
      ·intro hh;rw [if_neg (fun q=>hh ((Qs _).1 q))])
     (fun _=>by simp only [Zat,Int.lt_irrefl,if_false])]
    congr 1
    by_cases hh:Zgw (Za.Zy b) (fun k w=>ZbV w ((sinks (Za.Design b) (k:Int)).length:Int))
    ·rw [Vq hh,YL hh]
    ·rw [Qq hh,Yk hh])
  rw [List.take_zero,List.filter_nil,List.map_nil,Zqc] at this
  exact this
 ·unfold ZkV
  rw [show ((Za.Zy b).length:Int)=((Zb.ZM (Za.Design b)).length:Int)↔(Za.Zy b).length=(Zb.ZM (Za.Design b)).length from by omega]
structure ZaN (b:Za):Prop where
 ok:ZkV b
 sm:sm YG b
end Go.Proofs.YtfndhpjedmopdaaGreatDoor
/-
  Plain laws: the view is always made.
-/
namespace Go.Proofs.YtfndhpjedmopdaaGreatDoor
set_option linter.unusedVariables false
set_option linter.unusedSimpArgs false
open Go Go.Sx
theorem Zid {α τ ρ:Type} {l:List α} (I:Nat→τ→Prop) (Q:ρ→Prop) {step:τ→Option (τ ⊕ ρ)} {v:τ} (h0:I 0 v)
  (hs:∀ (k:Nat) (x:α) (v:τ),l[k]?=some x→k<l.length→I k v→∃ v',step v=some (.inl v')∧I (k+1) v')
  (hx:∀ v,I l.length v→∃ r,step v=some (.inr r)∧Q r):∃ r,Zt step v=some r∧Q r :=
 Zan l.length I Q h0 (fun k v hk hI=>.inl (hs k l[k] v (List.getElem?_eq_getElem hk) hk hI)) hx
theorem ZrS {α:Type} {l:List α} {i:Int} (h0:0≤i) (h1:i<(l.length:Int)):∃ x,atI l i=some x∧x∈l:=by
 obtain ⟨x,h2,h3⟩:=ZsL h0 h1
 exact ⟨x,h2,List.mem_of_getElem? h3⟩
theorem ZuS {a:Zk} {d:Zb} (h:QF a d) {x:Pl} (hx:x∈places d):∃ n,Ji d a x=some n:=by
 unfold Ji
 split
 ·exact ⟨_,rfl⟩
 ·rename_i hneg
  unfold places at hx
  rcases List.mem_append.1 hx with hx | hx
  ·obtain ⟨i,z,hi,hz⟩:=ZcZ.1 hx
   unfold Y6 at hz
   obtain ⟨j,n,hj,hn⟩:=ZcZ.1 hz
   simp only [List.mem_singleton] at hn
   subst hn
   rw [Nat.zero_add] at hneg
   obtain ⟨hc,⟨c,hc1,hc2⟩,_⟩:=h.2.2.1 z (List.mem_of_getElem? hi)
   have hj2:=(List.getElem?_eq_some_iff.1 hj).1
   simp only [ZR.instance,ZR.pin,Nat.zero_add,Zu,hi,Option.bind_some]
   rw [Qu hc.1 hc1,Option.bind_some]
   have hp:(Zi.Yx c)[j]?=some (Zi.Yx c)[j]:=List.getElem?_eq_getElem (by omega)
   rw [hp,Option.bind_some]
   exact ⟨_,rfl⟩
  ·obtain ⟨j,p,hj,hp⟩:=ZcZ.1 hx
   simp only [ZcP,List.mem_singleton] at hp
   subst hp
   exact absurd (by show (-1:Int)<0;omega) hneg
theorem ZuU {d:Zb} {net y:Int} (h:y∈sinks d net):0≤y∧y<((places d).length:Int):=by
 obtain ⟨k,x,hk,hy⟩:=ZcZ.1 h
 have:=(List.getElem?_eq_some_iff.1 hk).1
 unfold Za2 at hy
 split at hy
 ·split at hy
  ·cases hy
  ·simp only [List.mem_singleton] at hy;omega
 ·cases hy
theorem ZkL {b:Za} (h:ZaN b) {k:Nat} {w:Zo} (hw:(Za.Zy b)[k]?=some w):∃ r,XO b (k:Int)=some r∧r.length=(Zo.Parent w).length:=by
 have hW:=h.ok.2.2 k w hw
 have hD:=h.ok.1
 have hf:=hD.few
 obtain ⟨⟨l1,l8⟩,lr,lc,ls,ht,ar,ac,asn⟩:=hW
 have hpl:=YK hf
 have hsl:=Zfi (k:Int) (places (Za.Design b)) 0
 have hsl2:(sinks (Za.Design b) (k:Int)).length≤78:=by unfold sinks;omega
 unfold XO
 rw [Zu,hw,Option.bind_some]
 unfold ZK
 rw [Zh (by simp;omega),Option.bind_some,Ye _ hf,Option.bind_some,Zfs _ _ hf,Option.bind_some]
 refine Zid (l:=sinks (Za.Design b) (k:Int)) (fun m v=>v.1=(m:Int)∧v.2.1.length=(Zo.Parent w).length) _ ⟨rfl,by simp;omega⟩ ?_ ?_
 ·rintro m y ⟨i,l,⟨⟩⟩ hy hm ⟨hi,hl⟩
  simp only at hi hl
  subst hi
  have hz:(Zo.Zfj w)[m]?=some (Zo.Zfj w)[m]:=List.getElem?_eq_getElem (by omega)
  generalize (Zo.Zfj w)[m]=z at hz
  have hz2:=asn z (List.mem_of_getElem? hz)
  obtain ⟨q,hq1,_⟩:=ZrS (l:=l) hz2.1 (by omega)
  obtain ⟨hy1,hy2⟩:=ZuU (List.mem_of_getElem? hy)
  obtain ⟨p,hp1,hp2⟩:=ZrS hy1 hy2
  obtain ⟨c,hc⟩:=ZuS hD hp2
  simp only [XG,show (m:Int)<((sinks (Za.Design b) (k:Int)).length:Int) from by omega,if_true,Zu,hy,hz,Option.bind_some,hq1,hp1,hc]
  exact ⟨_,rfl,by rw [Q5 (by omega)],by simp [hl]⟩
 ·rintro ⟨i,l,⟨⟩⟩ ⟨hi,hl⟩
  simp only at hi hl
  subst hi
  simp only [XG,Int.lt_irrefl,if_false]
  have:=Zo7 (σ:=Int×List Int×Unit) (ρ:=(Int×List Int×Unit) ⊕ List Int) (step:=fun v=>XJ w v.1 v.2.1) (fun v=>(∃ j:Nat,v.1=(j:Int)∧j<(Zo.Parent w).length)∧v.2.1.length=(Zo.Parent w).length) (fun v=>v.1.toNat) (fun r=>∃ r',r=.inr r'∧r'.length=(Zo.Parent w).length) (v:=(IntKind.i64.wrap ((l.length:Int)-1),l,()))
   ⟨⟨l.length-1,by show IntKind.i64.wrap _=_;rw [Zrb (by omega) (by omega)],by omega⟩,hl⟩
   (by
    rintro ⟨i,l,⟨⟩⟩ ⟨⟨j,hj,hj2⟩,hl⟩
    simp only at hj hl
    subst hj
    simp only [XJ]
    by_cases h0:(0:Int)<(j:Int)
    ·rw [if_pos h0]
     have hp:(Zo.Parent w)[j]?=some (Zo.Parent w)[j]:=List.getElem?_eq_getElem (by omega)
     generalize (Zo.Parent w)[j]=p at hp
     have hp2:=(ht j p hp).2 (by omega)
     obtain ⟨q,hq1,_⟩:=ZrS (l:=l) hp2.1 (by omega)
     have hl2:l[j]?=some l[j]:=List.getElem?_eq_getElem (by omega)
     simp only [Zu,hp,Option.bind_some,hq1,hl2]
     left
     refine ⟨_,rfl,⟨⟨j-1,by rw [Zrb (by omega) (by omega)],by omega⟩,by simp [hl]⟩,?_⟩
     show (IntKind.i64.wrap ((j:Int)-1)).toNat<((j:Int)).toNat
     rw [Zrb (by omega) (by omega)];omega
    ·rw [if_neg h0]
     right
     exact ⟨_,rfl,_,rfl,hl⟩)
  obtain ⟨r,h1,r',rfl,h3⟩:=this
  exact ⟨r',h1,h3⟩
theorem ZnE {b:Za} (h:ZaN b) {k:Nat} {w:Zo} (hw:(Za.Zy b)[k]?=some w):∃ r,JZ b (k:Int)=some r∧r.length≤1048576:=by
 have hW:=h.ok.2.2 k w hw
 obtain ⟨⟨l1,l8⟩,lr,lc,ls,ht,ar,ac,asn⟩:=hW
 obtain ⟨nl,hnl,hnl2⟩:=ZkL h hw
 have hsm:=Zm (Zjn (ZaM (Zbm h.sm).2.2 hw)).2.2.2
 have hnd:∃ r,Qn b (k:Int)=some r∧r.length=(Zo.Parent w).length:=by
  unfold Qn
  rw [Zu,hw,Option.bind_some,hnl,Option.bind_some,Zh (by omega),Zh (by omega),Zh (by omega),Zh (by omega)]
  refine Zan ((Zo.Parent w).length-1) (fun m v=>v.1=((m+1:Nat):Int)∧v.2.1.length=(Zo.Parent w).length) _ ⟨rfl,by simp [hnl2]⟩ ?_ ?_
  ·rintro m ⟨i,l,⟨⟩⟩ hm ⟨hi,hl⟩
   simp only at hi hl
   subst hi
   left
   have hp:(Zo.Parent w)[m+1]?=some (Zo.Parent w)[m+1]:=List.getElem?_eq_getElem (by omega)
   generalize (Zo.Parent w)[m+1]=p at hp
   have hp2:=(ht (m+1) p hp).2 (by omega)
   obtain ⟨q,hq1,_⟩:=ZrS (l:=l) hp2.1 (by omega)
   have hr:(Zo.Res w)[m+1]?=some (Zo.Res w)[m+1]:=List.getElem?_eq_getElem (by omega)
   have hn:nl[m+1]?=some nl[m+1]:=List.getElem?_eq_getElem (by omega)
   have hl2:l[m+1]?=some l[m+1]:=List.getElem?_eq_getElem (by omega)
   simp only [Xq,show ((m+1:Nat):Int)<(l.length:Int) from by omega,if_true,Zu,hp,hq1,hr,hn,hl2,Option.bind_some]
   exact ⟨_,rfl,by rw [Q5 (by omega)],by simp [hl]⟩
  ·rintro ⟨i,l,⟨⟩⟩ ⟨hi,hl⟩
   simp only at hi hl
   subst hi
   simp only [Xq,show ¬(((Zo.Parent w).length-1+1:Nat):Int)<(l.length:Int) from by omega,if_false]
   exact ⟨_,rfl,hl⟩
 obtain ⟨nd,hnd,hnd2⟩:=hnd
 unfold JZ
 rw [hnd,Option.bind_some,Zu,hw,Option.bind_some]
 refine Zid (l:=Zo.Zfj w) (fun m v=>v.1.length=m∧v.2.1=(m:Int)) _ ⟨rfl,rfl⟩ ?_ ?_
 ·rintro m y ⟨o,i,⟨⟩⟩ hy hm ⟨ho,hi⟩
  simp only at hi ho
  subst hi
  have hz2:=asn y (List.mem_of_getElem? hy)
  obtain ⟨q,hq1,_⟩:=ZrS (l:=nd) hz2.1 (by omega)
  simp only [V6,show (m:Int)<((Zo.Zfj w).length:Int) from by omega,if_true,Zu,hy,hq1,Option.bind_some]
  rw [Zh (by simp;omega)]
  exact ⟨_,rfl,by simp [ho],by rw [Q5 (by omega)]⟩
 ·rintro ⟨o,i,⟨⟩⟩ ⟨ho,hi⟩
  simp only at hi ho
  subst hi
  simp only [V6,Int.lt_irrefl,if_false]
  exact ⟨_,rfl,by omega⟩
theorem ZmZ (a:ZJ):∃ r,QN a=some r∧r.length≤4:=by
 unfold QN
 repeat' split
 all_goals exact ⟨_,rfl,by simp⟩
theorem Zph {b:Za} (h:ZaN b) {x:Zd} (hx:x∈Zb.Instances (Za.Design b)) (f:Int):∃ r,QV b x f=some r∧r.length≤32:=by
 obtain ⟨hc,⟨c,hc1,hc2⟩,_⟩:=h.ok.1.2.2.1 x hx
 have hA:=(h.ok.1.1.2.1 c (List.mem_of_getElem? hc1)).2.2.1.1
 unfold QV
 rw [Qu hc.1 hc1,Option.bind_some]
 refine Zid (l:=Zi.ZaZ c) (fun m v=>v.1.length≤4*m∧v.2.1=(m:Int)) _ ⟨by simp,rfl⟩ ?_ ?_
 ·rintro m y ⟨o,i,⟨⟩⟩ hy hm ⟨ho,hi⟩
  simp only at hi ho
  subst hi
  obtain ⟨ts,ht1,ht2⟩:=ZmZ y
  simp only [XH,show (m:Int)<((Zi.ZaZ c).length:Int) from by omega,if_true,Zu,hy,ht1,Option.bind_some]
  obtain ⟨r,hr1,r',rfl,hr2⟩:=Zid (l:=ts) (ρ:=(List ZaQ×Int×Unit) ⊕ List ZaQ) (step:=fun v=>Xa f (m:Int) y ts v.1 v.2.1) (v:=(o,(0:Int),())) (fun n v=>v.1.length=o.length+n∧v.2.1=(n:Int)) (fun r=>∃ r',r=.inl r'∧r'.1.length≤4*(m+1)∧r'.2.1=((m+1:Nat):Int)) ⟨rfl,rfl⟩
   (by
    rintro n z ⟨o2,i,⟨⟩⟩ hz hn ⟨ho2,hi⟩
    simp only at hi ho2
    subst hi
    simp only [Xa,show (n:Int)<(ts.length:Int) from by omega,if_true,Zu,hz,Option.bind_some]
    rw [Zh (by simp;omega)]
    exact ⟨_,rfl,by simp [ho2];omega,by rw [Q5 (by omega)]⟩)
   (by
    rintro ⟨o2,i,⟨⟩⟩ ⟨ho2,hi⟩
    simp only at hi ho2
    subst hi
    simp only [Xa,Int.lt_irrefl,if_false]
    exact ⟨_,rfl,_,rfl,by simp only;omega,by rw [Q5 (by omega)]⟩)
  exact ⟨r',hr1,hr2⟩
 ·rintro ⟨o,i,⟨⟩⟩ ⟨ho,hi⟩
  simp only at hi ho
  subst hi
  simp only [XH,Int.lt_irrefl,if_false]
  exact ⟨_,rfl,by omega⟩
def Short (l:List (List Int)) (n m:Nat):Prop:=l.length=n∧∀ x∈l,x.length≤m
theorem Short.set {l:List (List Int)} {n m:Nat} (h:Short l n m) {x:List Int} (hx:x.length≤m) (i:Nat):Short (l.set i x) n m:=by
 refine ⟨by simp [h.1],fun y hy=>?_⟩
 rcases List.mem_or_eq_of_mem_set hy with hy | rfl
 ·exact h.2 y hy
 ·exact hx
theorem Short.mono {l:List (List Int)} {n m p:Nat} (h:Short l n m) (hp:m≤p):Short l n p:=⟨h.1,fun x hx=>Nat.le_trans (h.2 x hx) hp⟩
theorem Zm5 {b:Za} (h:ZaN b):∃ v,Zb2 b=some v∧Zbl.places v=places (Za.Design b)∧Zbl.Block v=b:=by
 have hD:=h.ok.1
 have hf:=hD.few
 have hpl:=YK hf
 have h14:=hf.insts
 have hwn:=h.ok.2.1
 have h30:=hD.2.1.2.1
 unfold Zb2
 rw [Ye _ hf,Option.bind_some]
 refine Zid (l:=Zb.Instances (Za.Design b)) (fun k v=>v.2.1=(k:Int)∧v.2.2.1.length≤32*k) _ ⟨rfl,by simp⟩ ?_ ?_
 ·rintro k x ⟨n,i,c,⟨⟩⟩ hx hk ⟨hi,hc⟩
  simp only at hi hc
  subst hi
  obtain ⟨r,hr1,hr2⟩:=Zph h (List.mem_of_getElem? hx) n
  simp only [Zap,show (k:Int)<((Zb.Instances (Za.Design b)).length:Int) from by omega,if_true,Zu,hx,hr1,Option.bind_some,VZ]
  rw [Zh (by omega)]
  exact ⟨_,rfl,by simp only;rw [Q5 (by omega)],by simp only [List.length_append];omega⟩
 ·rintro ⟨n,i,c0,⟨⟩⟩ ⟨hi,hc0⟩
  simp only at hi hc0
  subst hi
  simp only [Zap,Int.lt_irrefl,if_false]
  rw [Zh (by omega),Zh (by omega),Zh (by omega),Zh (by omega),Zh (by omega)]
  obtain ⟨r,hr1,r',rfl,hr2⟩:=Zid (l:=places (Za.Design b)) (ρ:=(Int×Int×List ZaQ×Unit) ⊕ Zbl) (step:=fun v=>VG b (places (Za.Design b)) c0 v.1 v.2.1 v.2.2.1) (v:=((0:Int),List.replicate (Int.toNat (↑(List.length (Za.Zy b)):Int)) (0:Int),List.replicate (Int.toNat (↑(List.length (Za.Zy b)):Int)) (([]:List Int)),()))
   (fun k v=>v.1=(k:Int)∧v.2.1.length=(Za.Zy b).length∧Short v.2.2.1 (Za.Zy b).length k)
   (fun r=>∃ r',r=.inr r'∧Zbl.places r'=places (Za.Design b)∧Zbl.Block r'=b)
   ⟨rfl,by simp,by simp,by
    intro x hx
    rw [List.mem_replicate] at hx
    rw [hx.2];simp⟩
   (by
    rintro k x ⟨i,l0,l1,⟨⟩⟩ hx hk ⟨hi,h0,h1⟩
    simp only at hi h0 h1
    subst hi
    have hn:=Zaw hD (List.mem_of_getElem? hx)
    have hn1:=hn.2
    simp only [VG,show (k:Int)<((places (Za.Design b)).length:Int) from by omega,if_true,Zu,hx,Option.bind_some]
    obtain ⟨q,hq1,_⟩:=ZrS (l:=l0) hn.1 (by omega)
    obtain ⟨p,hp1,hp2⟩:=ZrS (l:=l1) hn.1 (by have:=h1.1;omega)
    have hp3:=h1.2 p hp2
    split
    ·rw [show atI l0 (ZR.net x)=some q from hq1,Option.bind_some]
     exact ⟨_,rfl,by simp only;rw [Q5 (by omega)],by simp [h0],h1.mono (by omega)⟩
    ·rw [show atI l1 (ZR.net x)=some p from hp1,Option.bind_some,Zh (by simp;omega)]
     exact ⟨_,rfl,by simp only;rw [Q5 (by omega)],h0,(h1.mono (by omega)).set (by simp;omega) _⟩)
   (by
    rintro ⟨i,l0,l1,⟨⟩⟩ ⟨hi,h0,h1⟩
    simp only at hi h0 h1
    subst hi
    simp only [VG,Int.lt_irrefl,if_false]
    obtain ⟨r,hr1,r',rfl,hr2⟩:=Zid (l:=Za.Zy b) (ρ:=(Int×List Int×List (List Int)×Unit) ⊕ ((Int×Int×List ZaQ×Unit) ⊕ Zbl)) (step:=fun v=>VD b (places (Za.Design b)) l0 v.1 v.2.1 v.2.2.1 v.2.2.2.1 v.2.2.2.2.1) (v:=((0:Int),([]:List Int),([]:List (List Int)),c0,l1,()))
     (fun k v=>v.1=(k:Int)∧v.2.1.length=k∧v.2.2.1.length=k∧v.2.2.2.1.length≤448+156*k∧Short v.2.2.2.2.1 (Za.Zy b).length 78)
     (fun r=>∃ r',r=.inr (.inr r')∧Zbl.places r'=places (Za.Design b)∧Zbl.Block r'=b)
     ⟨rfl,rfl,rfl,by simp only;omega,h1.mono (by omega)⟩
     (by
      rintro k w ⟨i,c1,c2,c3,l2,⟨⟩⟩ hw hk ⟨hi,g1,g2,g3,g4⟩
      simp only at hi g1 g2 g3 g4
      subst hi
      obtain ⟨nl,hnl,hnl2⟩:=ZkL h hw
      obtain ⟨ed,hed,hed2⟩:=ZnE h hw
      have hpar:=(h.ok.2.2 k w hw).1.1
      have hn0:atI nl (0:Int)=some nl[0]:=(show nl[0]?=some nl[0] from List.getElem?_eq_getElem (by omega))
      obtain ⟨x1,hl2⟩:∃ x1,l2[k]?=some x1:=⟨_,List.getElem?_eq_getElem (by have:=g4.1;omega)⟩
      have hx1:=g4.2 x1 (List.mem_of_getElem? hl2)
      simp only [VD,show (k:Int)<((Za.Zy b).length:Int) from by omega,if_true,hnl,hn0,hed,Option.bind_some,Zu,hl2]
      rw [Zh (by simp;omega),Zh (by simp;omega)]
      obtain ⟨r,hr1,r',rfl,hr2⟩:=Zid (l:=x1) (ρ:=(Int×List Int×List (List Int)×List ZaQ×List (List Int)×Unit) ⊕ ((Int×List Int×List (List Int)×Unit) ⊕ ((Int×Int×List ZaQ×Unit) ⊕ Zbl))) (step:=fun v=>Vt l0 (k:Int) c1 c2 l2 nl[0] ed x1 v.1 v.2.1) (v:=((0:Int),c3,()))
       (fun m v=>v.1=(m:Int)∧v.2.1.length=c3.length+2*m)
       (fun r=>∃ r',r=.inl r'∧r'.1=((k+1:Nat):Int)∧r'.2.1.length=k+1∧r'.2.2.1.length=k+1∧r'.2.2.2.1.length≤448+156*(k+1)∧Short r'.2.2.2.2.1 (Za.Zy b).length 78)
       ⟨rfl,rfl⟩
       (by
        rintro m y ⟨i,c4,⟨⟩⟩ hy hm ⟨hi,gc⟩
        simp only at hi gc
        subst hi
        simp only [Vt,show (m:Int)<(x1.length:Int) from by omega,if_true,Zu,hy,Option.bind_some]
        have hl0:l0[k]?=some l0[k]:=List.getElem?_eq_getElem (by omega)
        generalize l0[k]=z at hl0
        obtain ⟨r,hr1,r',rfl,hr2⟩:=Zan (step:=fun v=>VF l0 (k:Int) (m:Int) y v.1 v.2.1) 2 (fun j v=>v.1=(j:Int)∧v.2.1.length=c4.length+j) (fun r=>∃ r',r=.inl r'∧r'.1=((m+1:Nat):Int)∧r'.2.1.length=c4.length+2) (v:=((0:Int),c4,())) ⟨rfl,rfl⟩
         (by
          rintro j ⟨i,c5,⟨⟩⟩ hj ⟨hi,hc5⟩
          simp only at hi hc5
          subst hi
          left
          simp only [VF,show (j:Int)<(2:Int) from by omega,if_true,Zu,hl0,Option.bind_some]
          rw [Zh (by simp;omega)]
          exact ⟨_,rfl,by simp only;rw [Q5 (by omega)],by simp [hc5];omega⟩)
         (by
          rintro ⟨i,c5,⟨⟩⟩ ⟨hi,hc5⟩
          simp only at hi hc5
          subst hi
          simp only [VF,show ¬((2:Nat):Int)<(2:Int) from by omega,if_false]
          exact ⟨_,rfl,_,rfl,by simp only;rw [Q5 (by omega)],hc5⟩)
        exact ⟨r',hr1,hr2.1,by rw [hr2.2];omega⟩)
       (by
        rintro ⟨i,c4,⟨⟩⟩ ⟨hi,gc⟩
        simp only at hi gc
        subst hi
        simp only [Vt,Int.lt_irrefl,if_false]
        exact ⟨_,rfl,_,rfl,by simp only;rw [Q5 (by omega)],by simp [g1],by simp [g2],by simp only;omega,g4.set hx1 _⟩)
      exact ⟨r',hr1,hr2⟩)
     (by
      rintro ⟨i,c1,c2,c3,l2,⟨⟩⟩ ⟨hi,g1,g2,g3,g4⟩
      simp only at hi
      subst hi
      simp only [VD,Int.lt_irrefl,if_false]
      exact ⟨_,rfl,_,rfl,rfl,rfl⟩)
    exact ⟨_,hr1,_,rfl,hr2⟩)
  exact ⟨r',hr1,hr2⟩
end Go.Proofs.YtfndhpjedmopdaaGreatDoor
/-
  Plain laws: spans, slews.
-/
namespace Go.Proofs.YtfndhpjedmopdaaGreatDoor
set_option linter.unusedVariables false
set_option linter.unusedSimpArgs false
open Go Go.Sx
def ZkJ (s:Yh):Prop:=0≤Yh.Early s∧Yh.Early s≤Yh.Late s∧Yh.Late s≤1000000
theorem Zmn (s:Yh):ZcN s=some (tr (ZkJ s)):=by
 unfold ZcN ZkJ
 exact Yj (fun _=>Yj (fun _=>ZcR decide_eq_true_iff))
def Zjh (s:Yh):Prop:=(-1000000000≤Yh.Early s∧Yh.Early s≤1000000000)∧(-1000000000≤Yh.Late s∧Yh.Late s≤1000000000)∧Yh.Early s≤Yh.Late s
theorem Zje (s:Yh):Zdu s=some (tr (Zjh s)):=by
 unfold Zdu Zjh Zey
 exact YW (Zbj (VR _ _ _)) (fun _=>YW (Zbj (VR _ _ _)) (fun _=>ZcR decide_eq_true_iff))
theorem Zmh (s:Yh):ZcF s=some (tr (ZkJ s)):=by
 unfold ZcF ZeF
 refine JA (YW (Zje s) (fun _=>YW (Zbj (VR _ _ _)) (fun _=>Zbj (Zbj (VR _ _ _))))) ?_
 unfold ZkJ Zjh
 omega
end Go.Proofs.YtfndhpjedmopdaaGreatDoor
/-
  Plain laws: spans, the reference's.
-/
namespace Go.Proofs.YtfndhpjedmopdaaGreatDoor
set_option linter.unusedVariables false
set_option linter.unusedSimpArgs false
open Go Go.Sx
theorem ZoE (s:Yh):ZeJ s=some (tr (Zjh s)):=by
 unfold ZeJ Zjh
 exact YW (Zaz _ _ _) (fun _=>YW (Zaz _ _ _) (fun _=>ZcR decide_eq_true_iff))
end Go.Proofs.YtfndhpjedmopdaaGreatDoor
