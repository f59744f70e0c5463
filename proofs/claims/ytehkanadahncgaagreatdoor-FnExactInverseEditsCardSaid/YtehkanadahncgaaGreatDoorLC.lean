/-
  Plain laws: designs.
-/
import Derived.Test.YtehkanadahncgaaGreatDoorLB
namespace Go.Proofs.YtehkanadahncgaaGreatDoor
set_option linter.unusedVariables false
set_option linter.unusedSimpArgs false
open Go Go.Sx
theorem ZbJ {d:Za} (h:sm Yr d):sm (.sl Z6) (Za.Instances d)∧sm (.sl Vz) (Za.ZX d)∧sm (.sl .str) (Za.ZM d):=by
 refine ⟨?_,?_,?_⟩
 ·first | exact h.1 | exact h.2.1 | exact h.2.2.1 | exact h.2.2.2.1
 ·first | exact h.1 | exact h.2.1 | exact h.2.2.1 | exact h.2.2.2.1
 ·first | exact h.1 | exact h.2.1 | exact h.2.2.1 | exact h.2.2.2.1
theorem Zie {x:Zd} (h:sm Z6 x):sm .str (Zd.Name x)∧sm (.sl (.int .i64)) (Zd.ZM x):=by
 refine ⟨?_,?_⟩
 ·first | exact h.1 | exact h.2.1 | exact h.2.2.1 | exact h.2.2.2.1
 ·first | exact h.1 | exact h.2.1 | exact h.2.2.1 | exact h.2.2.2.1
theorem ZuK {x:ZL} (h:sm Vz x):sm .str (ZL.Name x):=by
 first | exact h.1 | exact h.2.1 | exact h.2.2.1 | exact h.2.2.2.1
theorem ZgE (d:Za) (h:sm Yr d):QM d=some (tr (Zje d)):=by
 obtain ⟨h1,h2,h3⟩:=ZbJ h
 have s1:=Zm h1
 have s2:=Zm h2
 have s3:=Zm h3
 unfold QM
 refine gather (l:=Za.Instances d) s1 Zd.Name (fun k x o hx hk ho=>?_) ?_
 ·simp only [XB,hk,if_true,Zu,hx,Option.bind_some]
 simp only [XB,Int.lt_irrefl,if_false]
 have hi:(ZaV d).length=(Za.Instances d).length:=by simp [ZaV]
 have hp:(Zcz d).length=(Za.ZX d).length:=by simp [Zcz]
 refine gather (l:=Za.ZX d) s2 ZL.Name (fun k x o hx hk ho=>?_) ?_
 ·simp only [XC,hk,if_true,Zu,hx,Option.bind_some]
 simp only [XC,Int.lt_irrefl,if_false]
 rw [show List.map ZL.Name (Za.ZX d)=Zcz d from rfl,show List.map Zd.Name (Za.Instances d)=ZaV d from rfl]
 simp only [hi,hp,Zbh _ (show (ZaV d).length≤4611686018427387904 by omega),Zbh _ (show (Zcz d).length≤4611686018427387904 by omega),Zbh _ (show (Za.ZM d).length≤4611686018427387904 by omega),Option.bind_some]
 unfold Zje
 rw [hi,hp]
 by_cases a:(Za.Instances d).length≤14
 ·rw [if_pos (by omega)]
  by_cases b:(Za.ZM d).length≤30
  ·rw [if_pos (by omega)]
   by_cases c:(Za.ZX d).length≤8
   ·rw [if_pos (by omega)]
    by_cases e:VK (ZaV d) (Za.Instances d).length
    ·rw [if_pos (YQ e)]
     by_cases f:VK (Za.ZM d) (Za.ZM d).length
     ·rw [if_pos (YQ f)]
      congr 3
      exact V7 ⟨fun q=>⟨a,b,c,e,f,q⟩,fun q=>q.2.2.2.2.2⟩
     ·rw [if_neg (by rw [Yn f];simp),Yn (fun q=>f q.2.2.2.2.1)]
    ·rw [if_neg (by rw [Yn e];simp),Yn (fun q=>e q.2.2.2.1)]
   ·rw [if_neg (by omega),Yn (fun q=>c q.2.2.1)]
  ·rw [if_neg (by omega),Yn (fun q=>b q.2.1)]
 ·rw [if_neg (by omega),Yn (fun q=>a q.1)]
def Zk7 (n:Nat) (s:List Int):List Int:=(List.range n).map (fun (j:Nat)=>((s.countP (fun x=>decide (x=(j:Int))):Nat):Int))
theorem Zgq (n:Nat) (s:List Int):(Zk7 n s).length=n:=by simp [Zk7]
theorem Zoi (n:Nat):Zk7 n []=List.replicate n 0:=by
 apply List.ext_getElem?
 intro i
 simp only [Zk7,List.countP_nil,List.getElem?_map,List.getElem?_replicate,List.getElem?_range]
 by_cases h:i<n
 ·simp [h]
 ·simp [h]
theorem ZhQ {n:Nat} {s:List Int} {j:Nat} (h:j<n):(Zk7 n s)[j]?=some ((s.countP (fun x=>decide (x=(j:Int))):Nat):Int):=by
 simp [Zk7,h]
theorem Zve {n:Nat} {s:List Int} {x:Int} (h0:0≤x) (h1:x<(n:Int)):atI (Zk7 n s) x=some ((s.countP (fun y=>decide (y=x)):Nat):Int):=by
 refine QY h0 ?_
 rw [ZhQ (by omega),show ((x.toNat:Nat):Int)=x by omega]
theorem ZtO {n:Nat} {s:List Int} {x:Int} (h0:0≤x) (h1:x<(n:Int)):List.set (Zk7 n s) (Int.toNat x) (((s.countP (fun y=>decide (y=x)):Nat):Int)+1)=Zk7 n (s++[x]):=by
 apply List.ext_getElem?
 intro i
 rw [List.getElem?_set]
 by_cases hi:i<n
 ·rw [ZhQ hi,ZhQ hi,List.countP_append,Zgq]
  by_cases e:x.toNat=i
  ·subst e
   rw [if_pos rfl,if_pos (by omega),show ((x.toNat:Nat):Int)=x by omega]
   simp
  ·rw [if_neg e]
   have:¬x=(i:Int):=by omega
   simp [List.countP_cons,this]
 ·have h1:(Zk7 n s)[i]?=none:=by rw [List.getElem?_eq_none];rw [Zgq];omega
  have h2:(Zk7 n (s++[x]))[i]?=none:=by rw [List.getElem?_eq_none];rw [Zgq];omega
  rw [h1,h2]
  split
  ·split
   ·rename_i h3;rw [Zgq] at h3;omega
   ·rfl
  ·rfl
theorem Zhw {n:Nat} {s:List Int} {x:Int} (h0:0≤x) (h1:x<(n:Int)) (hs:s.length≤1048576000) {τ:Type} (F:List Int→Option τ) :
  ((atI (Zk7 n s) x).bind fun y=>F (List.set (Zk7 n s) (Int.toNat x) (IntKind.i64.wrap (y+1))))=F (Zk7 n (s++[x])):=by
 have h2:=List.countP_le_length (p:=fun y=>decide (y=x)) (l:=s)
 rw [Zve h0 h1,Option.bind_some,Vy (by omega) (by omega),ZtO h0 h1]
def XV (x:Zd):Int:=(Zd.ZM x).getLastD 0
def ZbF (d:Za) (n:Int):Prop:=0≤n∧n≤((Za.ZM d).length:Int)-1
def Ziq (a:Zk) (d:Za) (x:Zd):Prop :=
 (0≤Zd.Cell x∧Zd.Cell x≤((Zk.Cells a).length:Int)-1)∧(∃ c,(Zk.Cells a)[(Zd.Cell x).toNat]?=some c∧(Zd.ZM x).length=(Zh.YC c).length)∧∀ n∈Zd.ZM x,ZbF d n
def Ziw (d:Za) (p:ZL):Prop:=(1≤ZL.Dir p∧ZL.Dir p≤2)∧ZbF d (ZL.Net p)
def ZlR (d:Za):List Int:=(Za.Instances d).map XV++((Za.ZX d).filter (fun p=>decide (ZL.Dir p=1))).map ZL.Net
def Zf9 (d:Za):Prop:=∀ x∈Zk7 (Za.ZM d).length (ZlR d),x=1
def QX (a:Zk) (d:Za):Prop:=ZpL a∧Zje d∧(∀ x∈Za.Instances d,Ziq a d x)∧(∀ p∈Za.ZX d,Ziw d p)∧Zf9 d
theorem Ziq.last {a:Zk} {d:Za} {x:Zd} (h:Ziq a d x) (hl:ZpL a) (hsm:(Zd.ZM x).length≤1048576):atI (Zd.ZM x) (IntKind.i64.wrap (((Zd.ZM x).length:Int)-1))=some (XV x)∧ZbF d (XV x):=by
 obtain ⟨_,⟨c,hc,hn⟩,hall⟩:=h
 have h2:2≤(Zh.YC c).length:=(hl.2.1 c (List.mem_of_getElem? hc)).2.1.1
 unfold XV
 cases hN:Zd.ZM x with
 | nil=>rw [hN] at hn;simp at hn;omega
 | cons y r =>
  rw [hN] at hsm
  rw [ZuH hsm (by simp),Zu]
  have e:(y::r)[(y::r).length-1]?=some ((y::r).getLastD 0):=by
   rw [←List.getLast?_eq_getElem?,List.getLastD_eq_getLast?,List.getLast?_cons];rfl
  exact ⟨e,hall _ (by rw [hN];exact List.mem_of_getElem? e)⟩
theorem Zcx (d:Za) (n:Int) (h:sm Yr d):YD d n=some (tr (ZbF d n)):=by
 have s3:=Zm (ZbJ h).2.2
 unfold YD
 rw [show YS (Za.ZM d)=some ((Za.ZM d).length:Int) from rfl,Option.bind_some,Vy (by omega) (by omega)]
 exact ZdG (Zbf _ _ _)
theorem ZfM (d:Za) (a:Zk) (x:Zd) (hd:sm Yr d) (ha:sm YE a) (hx:sm Z6 x):XM d a x=some (tr (Ziq a d x)):=by
 have sa:=Zm (ZmR ha)
 unfold XM
 rw [show Y3 (Zk.Cells a)=some ((Zk.Cells a).length:Int) from rfl,Option.bind_some,Vy (by omega) (by omega)]
 refine JZ (P:=(0≤Zd.Cell x∧Zd.Cell x≤((Zk.Cells a).length:Int)-1)∧Ziq a d x) (Xj (Zbf _ _ _) (fun hw=>?_)) ⟨fun q=>q.2,fun q=>⟨q.1,q⟩⟩
 obtain ⟨c,hc1,hc2⟩:=Zr0 hw.1 (show Zd.Cell x<((Zk.Cells a).length:Int) by omega)
 rw [hc1,Option.bind_some]
 refine JZ (P:=((Zd.ZM x).length:Int)=((Zh.YC c).length:Int)∧∀ n∈Zd.ZM x,ZbF d n) (YG (fun he=>?_)) ?_
 ·rw [Qx (XD (Zie hx).2) (fun n=>!tr (ZbF d n)) (fun n _=>by
   unfold YT
   show (YD d n).bind _=_
   rw [Zcx d n hd];rfl),Option.bind_some]
  refine ZdR ?_
  rw [Bool.not_eq_true',List.any_eq_false]
  constructor
  ·intro q n hn
   have:=q n hn
   simp only [Bool.not_eq_true',Bool.not_eq_false] at this
   exact (Vi _).1 this
  ·intro q n hn
   simp only [Bool.not_eq_true',Bool.not_eq_false]
   exact YQ (q n hn)
 ·constructor
  ·rintro ⟨q1,q2⟩;exact ⟨hw,⟨c,hc2,by omega⟩,q2⟩
  ·rintro ⟨_,⟨c',q1,q2⟩,q3⟩
   rw [hc2] at q1;injection q1 with q1;subst q1
   exact ⟨by omega,q3⟩
theorem ZqP {d:Za} {k:Nat} {p:ZL} (hx:(Za.ZX d)[k]?=some p) (s:List Int) :
  s++(((Za.ZX d).take (k+1)).filter (fun p=>decide (ZL.Dir p=1))).map ZL.Net=(if ZL.Dir p=1 then (s++(((Za.ZX d).take k).filter (fun p=>decide (ZL.Dir p=1))).map ZL.Net)++[ZL.Net p] else s++(((Za.ZX d).take k).filter (fun p=>decide (ZL.Dir p=1))).map ZL.Net):=by
 rw [YA hx,List.filter_append,List.map_append]
 by_cases h:ZL.Dir p=1
 ·rw [if_pos h];simp [h]
 ·rw [if_neg h];simp [h]
theorem Zte {d:Za} (k m:Nat):(((Za.Instances d).take m).map XV++(((Za.ZX d).take k).filter (fun p=>decide (ZL.Dir p=1))).map ZL.Net).length≤(Za.Instances d).length+(Za.ZX d).length:=by
 have h:=List.length_filter_le (fun p=>decide (ZL.Dir p=1)) ((Za.ZX d).take k)
 simp only [List.length_append,List.length_map,List.length_take] at h ⊢
 omega
theorem Zll (a:Zk) (d:Za) (ha:sm YE a) (hd:sm Yr d):Zcf a d=some (tr (QX a d)):=by
 obtain ⟨h1,h2,h3⟩:=ZbJ hd
 have s1:=Zm h1
 have s2:=Zm h2
 have s3:=Zm h3
 unfold Zcf
 refine JZ (P:=ZpL a∧Zje d∧(Zgc (Za.Instances d) (fun _ x=>Ziq a d x)∧(Zgc (Za.ZX d) (fun _ p=>Ziw d p)∧Zf9 d))) (Xj (ZkE a ha) (fun hL=>Xj (ZgE d hd) (fun hN=>?_))) (by rw [ZeE,ZeE];exact Iff.rfl)
 rw [Zi (by omega),Zi (by omega),Zi (by omega),Zi (by omega)]
 have:=ZhU (l:=Za.Instances d) (ρ:=Bool) (fun k=>((k:Int),Zk7 (Za.ZM d).length (((Za.Instances d).take k).map XV),())) (fun _ x=>Ziq a d x) (step:=fun v=>Vg a d v.1 v.2.1) (bad:=false) (good:=tr (Zgc (Za.ZX d) (fun _ p=>Ziw d p)∧Zf9 d))
  (fun k x hx hk _=>by
   have hsx:=Jz h1 hx
   simp only [Vg,show (k:Int)<((Za.Instances d).length:Int) from by omega,if_true,Zu,hx,Option.bind_some,ZfM d a x hd ha hsx]
   constructor
   ·intro hh
    obtain ⟨e1,e2⟩:=hh.last hL (Zm (Zie hsx).2)
    rw [if_pos (YQ hh),e1,Option.bind_some,Zhw e2.1 (by have:=e2.2;omega) (by simp only [List.length_map,List.length_take];omega) (F:=fun o=>some (Sum.inl (IntKind.i64.wrap ((k:Int)+1),o,()))),YA hx,List.map_append,JJ (by omega)]
    rfl
   ·intro hh;rw [if_neg (by rw [Yn hh];simp)])
  (fun hA=>by
   simp only [Vg,Int.lt_irrefl,if_false,List.take_length]
   have:=ZhU (l:=Za.ZX d) (ρ:=Int×List Int×Unit ⊕ Bool) (fun k=>((k:Int),Zk7 (Za.ZM d).length ((Za.Instances d).map XV++(((Za.ZX d).take k).filter (fun p=>decide (ZL.Dir p=1))).map ZL.Net),())) (fun _ p=>Ziw d p) (step:=fun v=>Qa d v.1 v.2.1) (bad:=.inr false) (good:=.inr (tr (Zf9 d)))
    (fun k p hx hk _=>by
     have hl:=Zte (d:=d) k (Za.Instances d).length
     rw [List.take_length] at hl
     simp only [Qa,show (k:Int)<((Za.ZX d).length:Int) from by omega,if_true,Zu,hx,Option.bind_some,Zcx d _ hd,ZqP hx]
     by_cases d1:ZL.Dir p=1
     ·simp only [d1,if_true]
      constructor
      ·intro hh
       rw [if_pos (YQ hh.2),Zhw hh.2.1 (by have:=hh.2.2;omega) (by omega) (F:=fun o=>some (Sum.inl (IntKind.i64.wrap ((k:Int)+1),o,()))),JJ (by omega)]
      ·intro hh
       rw [if_neg (by rw [Yn (fun q=>hh ⟨by omega,q⟩)];simp)]
     ·simp only [d1,if_false]
      by_cases d2:ZL.Dir p=2
      ·simp only [d2,if_true]
       constructor
       ·intro hh
        rw [if_pos (YQ hh.2),JJ (by omega)]
       ·intro hh
        rw [if_neg (by rw [Yn (fun q=>hh ⟨by omega,q⟩)];simp)]
      ·simp only [d2,if_false]
       exact ⟨fun hh=>by have:=hh.1;omega,fun _=>trivial⟩)
    (fun _=>by
     simp only [Qa,Int.lt_irrefl,if_false,List.take_length]
     rw [JQ (show Len _ by show List.length _≤_;rw [Zgq];omega) (fun n=>!decide (n=1)) (fun n _=>rfl),Option.bind_some]
     congr 3
     refine (Zof ?_).symm
     rw [Bool.not_eq_true',List.any_eq_false]
     simp only [Bool.not_eq_true',Bool.not_eq_false,decide_eq_true_eq,decide_eq_false_iff_not,Classical.not_not]
     exact Iff.rfl)
   refine (show Zt (fun v=>Qa d v.1 v.2.1) ((0:Int),Zk7 (Za.ZM d).length ((Za.Instances d).map XV),())=_ from (by simpa using this)).trans ?_
   by_cases hP:Zgc (Za.ZX d) (fun _ p=>Ziw d p)
   ·rw [Vu hP];congr 2;exact V7 ⟨fun q=>⟨hP,q⟩,fun q=>q.2⟩
   ·rw [Qs hP,Yn (fun q=>hP q.1)])
 rw [Zjv] at this
 refine Eq.trans ?_ this
 rw [List.take_zero,List.map_nil,Zoi]
 rfl
end Go.Proofs.YtehkanadahncgaaGreatDoor
/-
  Plain laws: designs by the reference; places.
-/
namespace Go.Proofs.YtehkanadahncgaaGreatDoor
set_option linter.unusedVariables false
set_option linter.unusedSimpArgs false
open Go Go.Sx
theorem Zlr (a:Zk) (d:Za) (ha:sm YE a) (hd:sm Yr d):Zcq a d=some (tr (Zgc (Za.Instances d) (fun _ x=>Ziq a d x)∧Zgc (Za.ZX d) (fun _ p=>Ziw d p))):=by
 obtain ⟨h1,h2,h3⟩:=ZbJ hd
 have s1:=Zm h1
 have s2:=Zm h2
 have s3:=Zm h3
 have sa:=Zm (ZmR ha)
 have e1:IntKind.i64.wrap (((Za.ZM d).length:Int)-1)=((Za.ZM d).length:Int)-1:=Vy (by omega) (by omega)
 have e2:IntKind.i64.wrap (((Zk.Cells a).length:Int)-1)=((Zk.Cells a).length:Int)-1:=Vy (by omega) (by omega)
 unfold Zcq
 rw [Zaz (XD h1) (fun _ x=>Ziq a d x) (bad:=false) (good:=tr (Zgc (Za.ZX d) (fun _ p=>Ziw d p)))
  (fun k x hx hk _=>by
   have hsx:=Jz h1 hx
   simp only [JI,show (k:Int)<((Za.Instances d).length:Int) from by omega,if_true,Zu,hx,Option.bind_some,Za0,e2]
   by_cases hc:0≤Zd.Cell x∧Zd.Cell x≤((Zk.Cells a).length:Int)-1
   ·obtain ⟨c,hc1,hc2⟩:=Zr0 hc.1 (show Zd.Cell x<((Zk.Cells a).length:Int) by omega)
    rw [if_pos (YQ hc),hc1,Option.bind_some]
    by_cases hp:((Zd.ZM x).length:Int)=((Zh.YC c).length:Int)
    ·rw [if_pos hp,Zaz (XD (Zie hsx).2) (fun _ n=>ZbF d n) (bad:=.inr false) (good:=.inl (IntKind.i64.wrap ((k:Int)+1),()))
      (fun j n hn hj _=>by
       simp only [JA,show (j:Int)<((Zd.ZM x).length:Int) from by omega,if_true,Zu,hn,Option.bind_some,Za0,e1]
       constructor
       ·intro hh;exact if_pos (YQ hh)
       ·intro hh;exact if_neg (fun q=>hh ((Vi _).1 q)))
      (fun _=>by simp only [JA,Int.lt_irrefl,if_false])]
     constructor
     ·intro hh;rw [Vu (ZeE.2 hh.2.2)]
     ·intro hh;rw [Qs (fun q=>hh ⟨hc,⟨c,hc2,by omega⟩,ZeE.1 q⟩)]
    ·rw [if_neg hp]
     refine ⟨fun hh=>?_,fun _=>rfl⟩
     obtain ⟨_,⟨c',q1,q2⟩,_⟩:=hh
     rw [hc2] at q1;injection q1 with q1;subst q1
     exact absurd (by omega) hp
   ·rw [if_neg (by rw [Yn hc];simp)]
    exact ⟨fun hh=>absurd hh.1 hc,fun _=>rfl⟩)
  (fun _=>by
   simp only [JI,Int.lt_irrefl,if_false]
   rw [Zaz (XD h2) (fun _ p=>Ziw d p) (bad:=.inr false) (good:=.inr true)
    (fun k p hx hk _=>by
     simp only [JE,show (k:Int)<((Za.ZX d).length:Int) from by omega,if_true,Zu,hx,Option.bind_some,Za0,e1]
     by_cases hc:1≤ZL.Dir p∧ZL.Dir p≤2
     ·rw [if_pos (YQ hc)]
      constructor
      ·intro hh;exact if_pos (YQ hh.2)
      ·intro hh;exact if_neg (fun q=>hh ⟨hc,(Vi _).1 q⟩)
     ·rw [if_neg (by rw [Yn hc];simp)]
      exact ⟨fun hh=>absurd hh.1 hc,fun _=>rfl⟩)
    (fun _=>by simp only [JE,Int.lt_irrefl,if_false])]
   congr 1
   by_cases hh:Zgc (Za.ZX d) (fun _ p=>Ziw d p)
   ·rw [Vu hh,YQ hh]
   ·rw [Qs hh,Yn hh])]
 rw [Zjv]
theorem ZqJ {α:Type} {l:List α} {f:α→List UInt8} (h:∀ x∈l,(f x).length≤4611686018427387904):∀ s∈l.map f,s.length≤4611686018427387904:=by
 intro s hs
 obtain ⟨x,hx,rfl⟩:=List.mem_map.1 hs
 exact h x hx
theorem Zk3 (a:Zk) (d:Za) (ha:sm YE a) (hd:sm Yr d):Zcd a d=some (tr (QX a d)):=by
 obtain ⟨h1,h2,h3⟩:=ZbJ hd
 have s1:=Zm h1
 have s2:=Zm h2
 have s3:=Zm h3
 unfold Zcd
 refine JZ (Xj (Zj2 a ha) (fun hL=>ZgO (fun a1=>ZgO (fun a2=>ZgO (fun a3=>Xj (Zlr a d ha hd) (fun hP=>?_))))))
  (P:=ZpL a∧¬(14:Int)<((Za.Instances d).length:Int)∧¬(30:Int)<((Za.ZM d).length:Int)∧¬(8:Int)<((Za.ZX d).length:Int)∧(Zgc (Za.Instances d) (fun _ x=>Ziq a d x)∧Zgc (Za.ZX d) (fun _ p=>Ziw d p))∧(VK (ZaV d) (ZaV d).length∧VK (Zcz d) (Zcz d).length∧VK (Za.ZM d) (Za.ZM d).length)∧Zf9 d) ?_
 ·have hi:(ZaV d).length=(Za.Instances d).length:=by simp [ZaV]
  have hp:(Zcz d).length=(Za.ZX d).length:=by simp [Zcz]
  refine gather (l:=Za.Instances d) s1 Zd.Name (fun k x o hx hk ho=>?_) ?_
  ·simp only [JW,hk,if_true,Zu,hx,Option.bind_some]
  simp only [JW,Int.lt_irrefl,if_false]
  refine gather (l:=Za.ZX d) s2 ZL.Name (fun k x o hx hk ho=>?_) ?_
  ·simp only [JV,hk,if_true,Zu,hx,Option.bind_some]
  simp only [JV,Int.lt_irrefl,if_false]
  rw [show List.map ZL.Name (Za.ZX d)=Zcz d from rfl,show List.map Zd.Name (Za.Instances d)=ZaV d from rfl]
  simp only [ZeS (ZaV d) (by omega) (ZqJ (fun x hx=>Zhk (Zie (ZqU h1 hx)).1)),ZeS (Zcz d) (by omega) (ZqJ (fun x hx=>Zhk (ZuK (ZqU h2 hx)))),ZeS (Za.ZM d) (by omega) (fun s hs=>Zhk (ZqU h3 hs)),Option.bind_some]
  by_cases n1:VK (ZaV d) (ZaV d).length
  ·rw [if_pos (YQ n1)]
   by_cases n2:VK (Zcz d) (Zcz d).length
   ·rw [if_pos (YQ n2)]
    by_cases n3:VK (Za.ZM d) (Za.ZM d).length
    ·rw [if_pos (YQ n3),Zi (by omega),Zi (by omega),Zi (by omega),Zi (by omega)]
     have:=YH (l:=Za.Instances d) (ρ:=(List (List UInt8))×Int×Unit ⊕ ((List (List UInt8))×Int×Unit ⊕ Bool)) (fun k=>((k:Int),Zk7 (Za.ZM d).length (((Za.Instances d).take k).map XV),())) (step:=fun v=>X8 d v.1 v.2.1) (good:=.inr (.inr (tr (Zf9 d))))
      (fun k x hx hk=>by
       have hsx:=Jz h1 hx
       obtain ⟨e1,e2⟩:=(hP.1 k x hx).last hL (Zm (Zie hsx).2)
       simp only [X8,show (k:Int)<((Za.Instances d).length:Int) from by omega,if_true,Zu,hx,Option.bind_some]
       rw [e1,Option.bind_some,Zhw e2.1 (by have:=e2.2;omega) (by simp only [List.length_map,List.length_take];omega) (F:=fun o=>some (Sum.inl (IntKind.i64.wrap ((k:Int)+1),o,()))),YA hx,List.map_append,JJ (by omega)]
       rfl)
      (by
       simp only [X8,Int.lt_irrefl,if_false,List.take_length]
       have:=YH (l:=Za.ZX d) (ρ:=Int×List Int×Unit ⊕ ((List (List UInt8))×Int×Unit ⊕ ((List (List UInt8))×Int×Unit ⊕ Bool))) (fun k=>((k:Int),Zk7 (Za.ZM d).length ((Za.Instances d).map XV++(((Za.ZX d).take k).filter (fun p=>decide (ZL.Dir p=1))).map ZL.Net),())) (step:=fun v=>X9 d v.1 v.2.1) (good:=.inr (.inr (.inr (tr (Zf9 d)))))
        (fun k p hx hk=>by
         have hl:=Zte (d:=d) k (Za.Instances d).length
         rw [List.take_length] at hl
         have hpo:=hP.2 k p hx
         simp only [X9,show (k:Int)<((Za.ZX d).length:Int) from by omega,if_true,Zu,hx,Option.bind_some,ZqP hx]
         by_cases d1:ZL.Dir p=1
         ·simp only [d1,if_true]
          rw [Zhw hpo.2.1 (by have:=hpo.2.2;omega) (by omega) (F:=fun o=>some (Sum.inl (IntKind.i64.wrap ((k:Int)+1),o,()))),JJ (by omega)]
         ·simp only [d1,if_false]
          rw [JJ (by omega)])
        (by
         simp only [X9,Int.lt_irrefl,if_false,List.take_length]
         rw [Zaz (l:=Zk7 (Za.ZM d).length ((Za.Instances d).map XV++((Za.ZX d).filter (fun p=>decide (ZL.Dir p=1))).map ZL.Net)) (show List.length _≤_ by rw [Zgq];omega) (fun _ x=>x=1) (bad:=.inr (.inr (.inr (.inr false)))) (good:=.inr (.inr (.inr (.inr true))))
          (fun k x hx hk _=>by
           simp only [JB,show (k:Int)<((Zk7 (Za.ZM d).length ((Za.Instances d).map XV++((Za.ZX d).filter (fun p=>decide (ZL.Dir p=1))).map ZL.Net)).length:Int) from by omega,if_true,Zu,hx,Option.bind_some]
           constructor
           ·intro hh;rw [if_pos hh]
           ·intro hh;rw [if_neg hh])
          (fun _=>by simp only [JB,Int.lt_irrefl,if_false])]
         congr 1
         have e:Zgc (Zk7 (Za.ZM d).length ((Za.Instances d).map XV++((Za.ZX d).filter (fun p=>decide (ZL.Dir p=1))).map ZL.Net)) (fun _ x=>x=1)↔Zf9 d:=by
          rw [ZeE];exact Iff.rfl
         by_cases hh:Zf9 d
         ·rw [Vu (e.2 hh),YQ hh]
         ·rw [Qs (fun q=>hh (e.1 q)),Yn hh])
       refine (show Zt (fun v=>X9 d v.1 v.2.1) ((0:Int),Zk7 (Za.ZM d).length ((Za.Instances d).map XV),())=_ from (by simpa using this)).trans ?_
       rfl)
     rw [List.take_zero,List.map_nil,Zoi] at this
     refine (show Zt (fun v=>X8 d v.1 v.2.1) ((0:Int),List.replicate (Za.ZM d).length 0,())=_ from this).trans ?_
     congr 3
     exact V7 ⟨fun q=>⟨⟨n1,n2,n3⟩,q⟩,fun q=>q.2⟩
    ·rw [if_neg (by rw [Yn n3];simp),Yn (fun q=>n3 q.1.2.2)]
   ·rw [if_neg (by rw [Yn n2];simp),Yn (fun q=>n2 q.1.2.1)]
  ·rw [if_neg (by rw [Yn n1];simp),Yn (fun q=>n1 q.1.1)]
 ·unfold QX Zje
  rw [ZeE,ZeE]
  constructor
  ·rintro ⟨q1,q2,q3,q4,⟨q5,q6⟩,⟨q7,q8,q9⟩,q10⟩
   exact ⟨q1,⟨by omega,by omega,by omega,q7,q9,q8⟩,q5,q6,q10⟩
  ·rintro ⟨q1,⟨q2,q3,q4,q7,q9,q8⟩,q5,q6,q10⟩
   exact ⟨q1,by omega,by omega,by omega,⟨q5,q6⟩,⟨q7,q8,q9⟩,q10⟩
end Go.Proofs.YtehkanadahncgaaGreatDoor
/-
  Plain laws: places, sinks, wires.
-/
namespace Go.Proofs.YtehkanadahncgaaGreatDoor
set_option linter.unusedVariables false
set_option linter.unusedSimpArgs false
open Go Go.Sx
def cat {α β:Type} (f:Nat→α→List β):Nat→List α→List β
 | _,[]=>[]
 | k,x::r=>f k x++cat f (k+1) r
theorem Zdh {α β:Type} (f:Nat→α→List β):∀ (l r:List α) (m:Nat),cat f m (l++r)=cat f m l++cat f (m+l.length) r
 | [],r,m=>by simp [cat]
 | x::l,r,m=>by
  simp only [List.cons_append,cat,List.length_cons,Zdh f l r,List.append_assoc]
  rw [show m+1+l.length=m+(l.length+1) by omega]
theorem ZgK {α β:Type} {f:Nat→α→List β} {l:List α} {k:Nat} {x:α} (hx:l[k]?=some x):cat f 0 (l.take (k+1))=cat f 0 (l.take k)++f k x:=by
 have hk:=(List.getElem?_eq_some_iff.1 hx).1
 rw [YA hx,Zdh]
 simp only [cat,Nat.zero_add,List.length_take,List.append_nil]
 rw [show min k l.length=k by omega]
theorem Zhx {α β:Type} {f:Nat→α→List β} {y:β}:∀ {l:List α} {m:Nat},y∈cat f m l↔∃ (k:Nat) (x:α),l[k]?=some x∧y∈f (m+k) x
 | [],m=>by simp [cat]
 | z::r,m=>by
  simp only [cat,List.mem_append,Zhx (l:=r)]
  constructor
  ·rintro (h | ⟨k,x,h1,h2⟩)
   ·exact ⟨0,z,rfl,h⟩
   ·exact ⟨k+1,x,by simpa using h1,by rw [show m+(k+1)=m+1+k by omega];exact h2⟩
  ·rintro ⟨k,x,h1,h2⟩
   cases k with
   | zero=>simp at h1;subst h1;exact .inl h2
   | succ k=>exact .inr ⟨k,x,by simpa using h1,by rw [show m+1+k=m+(k+1) by omega];exact h2⟩
theorem ZiG {α β:Type} {f:Nat→α→List β} {c:Nat}:∀ {l:List α} {m:Nat},(∀ k,∀ x∈l,(f k x).length≤c)→(cat f m l).length≤c*l.length
 | [],m,_=>by simp [cat]
 | z::r,m,h=>by
  simp only [cat,List.length_append,List.length_cons]
  have h1:=h m z (by simp)
  have h2:=ZiG (f:=f) (l:=r) (m:=m+1) (fun k x hx=>h k x (by simp [hx]))
  rw [Nat.mul_add];omega
theorem Zdj {α β ρ:Type} {l:List α} (f:Nat→α→List β) (acc:List β) {step:List β×Int×Unit→Option ((List β×Int×Unit) ⊕ ρ)} {good:ρ}
  (hs:∀ (k:Nat) (x:α),l[k]?=some x→k<l.length→step (acc++cat f 0 (l.take k),(k:Int),())=some (.inl ((acc++cat f 0 (l.take k))++f k x,((k+1:Nat):Int),())))
  (hx:step (acc++cat f 0 l,(l.length:Int),())=some (.inr good)):Zt step (acc,(0:Int),())=some good:=by
 have:=YH (l:=l) (ρ:=ρ) (fun k=>(acc++cat f 0 (l.take k),(k:Int),())) (step:=step) (good:=good) (fun k x hx hk=>by
  rw [hs k x hx hk,ZgK hx,List.append_assoc]) (by simp only [List.take_length];exact hx)
 simpa [cat] using this
abbrev Pl:=Int×Int×Int×Bool×Unit
def Qv (i:Nat) (x:Zd):List Pl:=cat (fun j n=>[((i:Int),(j:Int),n,decide ((j:Int)=IntKind.i64.wrap (((Zd.ZM x).length:Int)-1)),())]) 0 (Zd.ZM x)
def ZeF (j:Nat) (p:ZL):List Pl:=[((-1:Int),(j:Int),ZL.Net p,decide (ZL.Dir p=1),())]
def places (d:Za):List Pl:=cat Qv 0 (Za.Instances d)++cat ZeF 0 (Za.ZX d)
theorem Zrh (i:Nat) (x:Zd):(Qv i x).length≤(Zd.ZM x).length:=by
 have:=ZiG (f:=fun j n=>[((i:Int),(j:Int),n,decide ((j:Int)=IntKind.i64.wrap (((Zd.ZM x).length:Int)-1)),())]) (c:=1) (l:=Zd.ZM x) (m:=0) (fun _ _ _=>by simp)
 simpa [Qv] using this
structure Few (d:Za):Prop where
 insts:(Za.Instances d).length≤14
 ports:(Za.ZX d).length≤8
 nets:∀ x∈Za.Instances d,(Zd.ZM x).length≤5
theorem QX.few {a:Zk} {d:Za} (h:QX a d):Few d:=by
 refine ⟨h.2.1.1,h.2.1.2.2.1,fun x hx=>?_⟩
 obtain ⟨_,⟨c,hc,hn⟩,_⟩:=h.2.2.1 x hx
 have:=(h.1.2.1 c (List.mem_of_getElem? hc)).2.1.2.1
 omega
theorem ZeL {d:Za} (h:Few d) (k:Nat):(cat Qv 0 ((Za.Instances d).take k)).length≤70:=by
 have:=ZiG (f:=Qv) (c:=5) (l:=(Za.Instances d).take k) (m:=0) (fun i x hx=>by
  have h1:=Zrh i x
  have h2:=h.nets x (List.mem_of_mem_take hx)
  omega)
 have h1:=h.insts
 rw [List.length_take] at this
 omega
theorem Zhp {d:Za} (h:Few d) (k:Nat):(cat ZeF 0 ((Za.ZX d).take k)).length≤8:=by
 have:=ZiG (f:=ZeF) (c:=1) (l:=(Za.ZX d).take k) (m:=0) (fun i x hx=>by simp [ZeF])
 have h1:=h.ports
 rw [List.length_take] at this
 omega
theorem Qn {d:Za} (h:Few d):(places d).length≤78:=by
 have h1:=ZeL h (Za.Instances d).length
 have h2:=Zhp h (Za.ZX d).length
 rw [List.take_length] at h1 h2
 unfold places
 rw [List.length_append];omega
theorem Yl (d:Za) (h:Few d):Yh d=some (places d):=by
 have h1:=h.insts
 have h2:=h.ports
 unfold Yh
 refine Zdj (l:=Za.Instances d) Qv [] (fun k x hx hk=>?_) ?_
 ·have hn:=h.nets x (List.mem_of_getElem? hx)
  have hl:=ZeL h k
  simp only [List.nil_append,Qc,show (k:Int)<((Za.Instances d).length:Int) from by omega,if_true,Zu,hx,Option.bind_some]
  refine Zdj (l:=Zd.ZM x) (fun j n=>[((k:Int),(j:Int),n,decide ((j:Int)=IntKind.i64.wrap (((Zd.ZM x).length:Int)-1)),())]) _ (fun j n hj hk'=>?_) ?_
  ·have hl2:=ZiG (f:=fun j n=>[((k:Int),(j:Int),n,decide ((j:Int)=IntKind.i64.wrap (((Zd.ZM x).length:Int)-1)),())]) (c:=1) (l:=(Zd.ZM x).take j) (m:=0) (fun _ _ _=>by simp)
   rw [List.length_take] at hl2
   simp only [Qi,show (j:Int)<((Zd.ZM x).length:Int) from by omega,if_true,Zu,hj,Option.bind_some]
   rw [Zi (by rw [List.length_append,List.length_singleton];omega),JJ (by omega)]
  ·simp only [Qi,Int.lt_irrefl,if_false]
   rw [JJ (by omega)];rfl
 ·have hl:=ZeL h (Za.Instances d).length
  rw [List.take_length] at hl
  simp only [List.nil_append,Qc,Int.lt_irrefl,if_false]
  refine Zdj (l:=Za.ZX d) ZeF _ (fun j p hj hk'=>?_) ?_
  ·have hl2:=Zhp h j
   simp only [Ql,show (j:Int)<((Za.ZX d).length:Int) from by omega,if_true,Zu,hj,Option.bind_some]
   rw [Zi (by rw [List.length_append,List.length_singleton];omega),JJ (by omega)];rfl
  ·simp only [Ql,Int.lt_irrefl,if_false];rfl
theorem Qg (d:Za) (h:Few d):Y9 d=some (places d):=by
 have h1:=h.insts
 have h2:=h.ports
 unfold Y9
 refine Zdj (l:=Za.Instances d) Qv [] (fun k x hx hk=>?_) ?_
 ·have hn:=h.nets x (List.mem_of_getElem? hx)
  have hl:=ZeL h k
  simp only [List.nil_append,VQ,show (k:Int)<((Za.Instances d).length:Int) from by omega,if_true,Zu,hx,Option.bind_some]
  refine Zdj (l:=Zd.ZM x) (fun j n=>[((k:Int),(j:Int),n,decide ((j:Int)=IntKind.i64.wrap (((Zd.ZM x).length:Int)-1)),())]) _ (fun j n hj hk'=>?_) ?_
  ·have hl2:=ZiG (f:=fun j n=>[((k:Int),(j:Int),n,decide ((j:Int)=IntKind.i64.wrap (((Zd.ZM x).length:Int)-1)),())]) (c:=1) (l:=(Zd.ZM x).take j) (m:=0) (fun _ _ _=>by simp)
   rw [List.length_take] at hl2
   simp only [VY,show (j:Int)<((Zd.ZM x).length:Int) from by omega,if_true,Zu,hj,Option.bind_some]
   rw [Zi (by rw [List.length_append,List.length_singleton];omega),JJ (by omega)]
  ·simp only [VY,Int.lt_irrefl,if_false]
   rw [JJ (by omega)];rfl
 ·have hl:=ZeL h (Za.Instances d).length
  rw [List.take_length] at hl
  simp only [List.nil_append,VQ,Int.lt_irrefl,if_false]
  refine Zdj (l:=Za.ZX d) ZeF _ (fun j p hj hk'=>?_) ?_
  ·have hl2:=Zhp h j
   simp only [VR,show (j:Int)<((Za.ZX d).length:Int) from by omega,if_true,Zu,hj,Option.bind_some]
   rw [Zi (by rw [List.length_append,List.length_singleton];omega),JJ (by omega)];rfl
  ·simp only [VR,Int.lt_irrefl,if_false];rfl
def Za5 (net:Int) (i:Nat) (x:Pl):List Int:=if x.2.2.1=net then (if x.2.2.2.1=true then [] else [(i:Int)]) else []
def sinks (d:Za) (net:Int):List Int:=cat (Za5 net) 0 (places d)
theorem Zfw (net:Int) (l:List Pl) (m:Nat):(cat (Za5 net) m l).length≤l.length:=by
 have:=ZiG (f:=Za5 net) (c:=1) (l:=l) (m:=m) (fun i x _=>by
  unfold Za5;split
  ·split<;>simp
  ·simp)
 omega
theorem Zh8 (d:Za) (net:Int) (h:Few d):Jr d net=some (sinks d net):=by
 have hp:=Qn h
 unfold Jr
 rw [Yl d h,Option.bind_some]
 refine Zdj (l:=places d) (Za5 net) [] (fun k x hx hk=>?_) ?_
 ·have hl:=Zfw net ((places d).take k) 0
  rw [List.length_take] at hl
  simp only [List.nil_append,QI,show (k:Int)<((places d).length:Int) from by omega,if_true,Zu,hx,Option.bind_some,Za5,JJ (show k≤1048576 by omega)]
  split
  ·split
   ·rw [List.append_nil]
   ·rw [Zi (by
     show (List.length _+1)*8≤_
     have:(cat (Za5 net) 0 ((places d).take k)).length≤78:=by omega
     omega)]
  ·rw [List.append_nil]
 ·simp only [List.nil_append,QI,Int.lt_irrefl,if_false];rfl
theorem VO (d:Za) (net:Int) (h:Few d):Xw d net=some (sinks d net):=by
 have hp:=Qn h
 unfold Xw
 rw [Qg d h,Option.bind_some]
 refine Zdj (l:=places d) (Za5 net) [] (fun k x hx hk=>?_) ?_
 ·have hl:=Zfw net ((places d).take k) 0
  rw [List.length_take] at hl
  simp only [List.nil_append,JY,show (k:Int)<((places d).length:Int) from by omega,if_true,Zu,hx,Option.bind_some,Za5,JJ (show k≤1048576 by omega)]
  split
  ·split
   ·rw [List.append_nil]
   ·rw [Zi (by
     show (List.length _+1)*8≤_
     have:(cat (Za5 net) 0 ((places d).take k)).length≤78:=by omega
     omega)]
  ·rw [List.append_nil]
 ·simp only [List.nil_append,JY,Int.lt_irrefl,if_false];rfl
theorem Zmf (net:Int):∀ (l:List Pl) (m:Nat),(cat (Za5 net) m l).length=((l.filter (fun x=>!x.2.2.2.1)).map (fun x=>x.2.2.1)).countP (fun y=>decide (y=net))
 | [],m=>by simp [cat]
 | x::r,m=>by
  simp only [cat,List.length_append,Zmf net r,Za5]
  obtain ⟨a,b,n,dr,u⟩:=x
  cases dr
  ·by_cases e:n=net
   ·simp [e,Nat.add_comm]
   ·simp [e]
  ·simp
end Go.Proofs.YtehkanadahncgaaGreatDoor
/-
  Plain laws: wires, blocks.
-/
namespace Go.Proofs.YtehkanadahncgaaGreatDoor
set_option linter.unusedVariables false
set_option linter.unusedSimpArgs false
open Go Go.Sx
theorem Zir {w:Zn} (h:sm XR w):sm (.sl (.int .i64)) (Zn.Parent w)∧sm (.sl (.int .i64)) (Zn.Res w)∧sm (.sl (.int .i64)) (Zn.Cap w)∧sm (.sl (.int .i64)) (Zn.Zfx w):=by
 refine ⟨?_,?_,?_,?_⟩
 all_goals first | exact h.1 | exact h.2.1 | exact h.2.2.1 | exact h.2.2.2.1
theorem ZaJ {b:Zb} (h:sm YL b):sm YE (Zb.Library b)∧sm Yr (Zb.Design b)∧sm (.sl XR) (Zb.Zw b):=by
 refine ⟨?_,?_,?_⟩
 all_goals first | exact h.1 | exact h.2.1 | exact h.2.2.1 | exact h.2.2.2.1
def Zmh (w:Zn) (k:Nat) (x:Int):Prop:=(k=0→x=-1∧(Zn.Res w)[0]?=some 0)∧(0<k→0≤x∧x≤(k:Int)-1)
def Zb1 (w:Zn) (s:Int):Prop :=
 (1≤(Zn.Parent w).length∧(Zn.Parent w).length≤8)∧(Zn.Res w).length=(Zn.Parent w).length∧(Zn.Cap w).length=(Zn.Parent w).length∧((Zn.Zfx w).length:Int)=s∧
 Zgc (Zn.Parent w) (Zmh w)∧ZhG (Zn.Res w) 0 1000∧ZhG (Zn.Cap w) 0 500∧ZhG (Zn.Zfx w) 0 (((Zn.Parent w).length:Int)-1)
theorem ZhM (l:List Int) (lo hi:Int) (hl:l.length≤1048576):Xq l lo hi=some (tr (ZhG l lo hi)):=by
 rw [Zcj l lo hi (by omega)]
 exact ZdR (Zjd _ _ _)
theorem ZiM (w:Zn) (hw:sm XR w) (h1:1≤(Zn.Parent w).length) (h2:(Zn.Res w).length=(Zn.Parent w).length):J5 w=some (tr (Zgc (Zn.Parent w) (Zmh w))):=by
 obtain ⟨a1,a2,a3,a4⟩:=Zir hw
 have s1:=Zm a1
 unfold J5
 have hr:(Zn.Res w)[0]?=some (Zn.Res w)[0]:=List.getElem?_eq_getElem (by omega)
 rw [Zaz (XD a1) (Zmh w) (bad:=false) (good:=true)
  (fun k x hx hk _=>by
   simp only [Q7,show (k:Int)<((Zn.Parent w).length:Int) from by omega,if_true,Zu,hx,Option.bind_some]
   unfold Zmh
   by_cases hk0:k=0
   ·subst hk0
    rw [if_pos (by rfl),show atI (Zn.Res w) 0=some (Zn.Res w)[0] from hr,hr]
    simp only [Option.bind_some,Option.some.injEq]
    rw [if_neg (show ¬(0:Int)<((0:Nat):Int) by omega)]
    constructor
    ·intro hh
     obtain ⟨q1,q2⟩:=hh.1 trivial
     rw [if_pos q1,if_pos q2]
    ·intro hh
     by_cases q1:x=-1
     ·rw [if_pos q1,if_neg (fun q2=>hh ⟨fun _=>⟨q1,q2⟩,fun h=>by omega⟩)]
     ·rw [if_neg q1]
   ·rw [if_neg (by omega),if_pos (by omega),Zbf,Option.bind_some,Vy (by omega) (by omega)]
    constructor
    ·intro hh;rw [if_pos (YQ (hh.2 (by omega)))]
    ·intro hh;rw [if_neg (fun q=>hh ⟨fun h=>absurd h hk0,fun _=>(Vi _).1 q⟩)])
  (fun _=>by simp only [Q7,Int.lt_irrefl,if_false]),ZmB]
theorem ZiA (w:Zn) (s:Int) (hw:sm XR w):Zc0 w s=some (tr (Zb1 w s)):=by
 obtain ⟨a1,a2,a3,a4⟩:=Zir hw
 have s1:=Zm a1
 have s2:=Zm a2
 have s3:=Zm a3
 have s4:=Zm a4
 unfold Zc0
 simp only [Zay,Option.bind_some,Vy (show (-9223372036854775808:Int)≤((Zn.Parent w).length:Int)-1 by omega) (by omega)]
 refine JZ (Xj (Zbf _ _ _) (fun q1=>YG (fun q2=>YG (fun q3=>Xj (ZiM w hw (by omega) (by omega)) (fun q4=>Xj (ZhM _ _ _ s2) (fun q5=>Xj (ZhM _ _ _ s3) (fun q6=>YG (fun q7=>ZdG (ZhM _ _ _ s4))))))))) ?_
 unfold Zb1
 constructor
 ·rintro ⟨q1,q2,q3,q4,q5,q6,q7,q8⟩
  exact ⟨⟨by omega,by omega⟩,by omega,by omega,q7,q4,q5,q6,q8⟩
 ·rintro ⟨q1,q2,q3,q7,q4,q5,q6,q8⟩
  exact ⟨by omega,by omega,by omega,q4,q5,q6,q7,q8⟩
theorem Zq1 {l:List Int} {lo hi:Int}:ZhG l lo hi↔∀ (k:Nat) (x:Int),l[k]?=some x→lo≤x∧x≤hi:=by
 unfold ZhG
 constructor
 ·intro h k x hx;exact h x (List.mem_of_getElem? hx)
 ·intro h x hx
  obtain ⟨k,hk⟩:=List.mem_iff_getElem?.1 hx
  exact h k x hk
theorem Ziy (w:Zn) (s:Int) (hw:sm XR w):ZcS w s=some (tr (Zb1 w s)):=by
 obtain ⟨a1,a2,a3,a4⟩:=Zir hw
 have s1:=Zm a1
 have s2:=Zm a2
 have s3:=Zm a3
 have s4:=Zm a4
 have e1:IntKind.i64.wrap (((Zn.Parent w).length:Int)-1)=((Zn.Parent w).length:Int)-1:=Vy (by omega) (by omega)
 unfold ZcS
 refine JZ (ZgO (fun q1=>ZgO (fun q2=>YG (fun q3=>YG (fun q4=>YG (fun q5=>?_)))))) ?_
  (P:=¬((Zn.Parent w).length:Int)<1∧¬(8:Int)<((Zn.Parent w).length:Int)∧((Zn.Res w).length:Int)=((Zn.Parent w).length:Int)∧((Zn.Cap w).length:Int)=((Zn.Parent w).length:Int)∧((Zn.Zfx w).length:Int)=s∧
   (Zgc (Zn.Parent w) (fun k x=>(∀ c,(Zn.Cap w)[k]?=some c→0≤c∧c≤500)∧(∀ r,(Zn.Res w)[k]?=some r→0≤r∧r≤1000)∧Zmh w k x)∧ZhG (Zn.Zfx w) 0 (((Zn.Parent w).length:Int)-1)))
 ·rw [Zaz (XD a1) (fun k x=>(∀ c,(Zn.Cap w)[k]?=some c→0≤c∧c≤500)∧(∀ r,(Zn.Res w)[k]?=some r→0≤r∧r≤1000)∧Zmh w k x) (bad:=false) (good:=tr (ZhG (Zn.Zfx w) 0 (((Zn.Parent w).length:Int)-1)))
   (fun k x hx hk _=>by
    have hc:(Zn.Cap w)[k]?=some (Zn.Cap w)[k]:=List.getElem?_eq_getElem (by omega)
    have hr:(Zn.Res w)[k]?=some (Zn.Res w)[k]:=List.getElem?_eq_getElem (by omega)
    simp only [ZaM,show (k:Int)<((Zn.Parent w).length:Int) from by omega,if_true,Zu,hc,hr,hx,Option.bind_some,Za0,Option.some.injEq,forall_eq']
    generalize (Zn.Cap w)[k]=c at hc
    generalize (Zn.Res w)[k]=r at hr
    by_cases qc:0≤c∧c≤500
    ·rw [if_pos (YQ qc)]
     by_cases qr:0≤r∧r≤1000
     ·rw [if_pos (YQ qr)]
      unfold Zmh
      by_cases hk0:k=0
      ·subst hk0
       rw [if_pos (by rfl),hr]
       simp only [Option.some.injEq]
       rw [if_neg (show ¬(0:Int)<((0:Nat):Int) by omega)]
       constructor
       ·rintro ⟨_,_,hh⟩
        obtain ⟨q1,q2⟩:=hh.1 trivial
        rw [if_pos q1,if_pos q2]
       ·intro hh
        by_cases q1:x=-1
        ·rw [if_pos q1,if_neg (fun q2=>hh ⟨qc,qr,fun _=>⟨q1,q2⟩,fun h=>by omega⟩)]
        ·rw [if_neg q1]
      ·rw [if_neg (by omega),if_pos (by omega),Vy (show (-9223372036854775808:Int)≤(k:Int)-1 by omega) (by omega)]
       constructor
       ·intro hh;rw [if_pos (YQ (hh.2.2.2 (by omega)))]
       ·intro hh;rw [if_neg (fun q=>hh ⟨qc,qr,fun h=>absurd h hk0,fun _=>(Vi _).1 q⟩)]
     ·rw [if_neg (fun q=>qr ((Vi _).1 q))]
      exact ⟨fun hh=>absurd hh.2.1 qr,fun _=>rfl⟩
    ·rw [if_neg (fun q=>qc ((Vi _).1 q))]
     exact ⟨fun hh=>absurd hh.1 qc,fun _=>rfl⟩)
   (fun _=>by
    simp only [ZaM,Int.lt_irrefl,if_false]
    rw [Zaz (XD a4) (fun _ x=>0≤x∧x≤((Zn.Parent w).length:Int)-1) (bad:=.inr false) (good:=.inr true)
     (fun k x hx hk _=>by
      simp only [ZaB,show (k:Int)<((Zn.Zfx w).length:Int) from by omega,if_true,Zu,hx,Option.bind_some,Za0,e1]
      constructor
      ·intro hh;rw [if_pos (YQ hh)]
      ·intro hh;rw [if_neg (fun q=>hh ((Vi _).1 q))])
     (fun _=>by simp only [ZaB,Int.lt_irrefl,if_false])]
    congr 1
    have e:Zgc (Zn.Zfx w) (fun _ x=>0≤x∧x≤((Zn.Parent w).length:Int)-1)↔ZhG (Zn.Zfx w) 0 (((Zn.Parent w).length:Int)-1):=ZeE
    by_cases hh:ZhG (Zn.Zfx w) 0 (((Zn.Parent w).length:Int)-1)
    ·rw [Vu (e.2 hh),YQ hh]
    ·rw [Qs (fun q=>hh (e.1 q)),Yn hh]),Zjv]
 ·unfold Zb1
  rw [Zq1 (l:=Zn.Res w),Zq1 (l:=Zn.Cap w)]
  constructor
  ·rintro ⟨q1,q2,q3,q4,q5,q6,q7⟩
   refine ⟨⟨by omega,by omega⟩,by omega,by omega,q5,fun k x hx=>(q6 k x hx).2.2,fun k r hr=>?_,fun k c hc=>?_,q7⟩
   ·have hk:=(List.getElem?_eq_some_iff.1 hr).1
    exact (q6 k _ (List.getElem?_eq_getElem (by omega))).2.1 r hr
   ·have hk:=(List.getElem?_eq_some_iff.1 hc).1
    exact (q6 k _ (List.getElem?_eq_getElem (by omega))).1 c hc
  ·rintro ⟨q1,q2,q3,q5,q6,q7,q8,q9⟩
   exact ⟨by omega,by omega,by omega,by omega,q5,fun k x hx=>⟨fun c hc=>q8 k c hc,fun r hr=>q7 k r hr,q6 k x hx⟩,q9⟩
def ZjW (b:Zb):Prop :=
 QX (Zb.Library b) (Zb.Design b)∧(Zb.Zw b).length=(Za.ZM (Zb.Design b)).length∧Zgc (Zb.Zw b) (fun k w=>Zb1 w ((sinks (Zb.Design b) (k:Int)).length:Int))
theorem ZaH {a:Zk} {d:Za} (h:QX a d) {x:Pl} (hx:x∈places d):ZbF d x.2.2.1:=by
 unfold places at hx
 rcases List.mem_append.1 hx with hx | hx
 ·obtain ⟨i,z,hi,hz⟩:=Zhx.1 hx
  unfold Qv at hz
  obtain ⟨j,n,hj,hn⟩:=Zhx.1 hz
  simp only [List.mem_singleton] at hn
  subst hn
  exact (h.2.2.1 z (List.mem_of_getElem? hi)).2.2 n (List.mem_of_getElem? hj)
 ·obtain ⟨j,p,hj,hp⟩:=Zhx.1 hx
  simp only [ZeF,List.mem_singleton] at hp
  subst hp
  exact (h.2.2.2.1 p (List.mem_of_getElem? hj)).2
theorem Zhl (b:Zb) (hb:sm YL b):ZbM b=some (tr (ZjW b)):=by
 obtain ⟨a1,a2,a3⟩:=ZaJ hb
 have s3:=Zm a3
 unfold ZbM
 refine JZ (Xj (Zk3 _ _ a1 a2) (fun hD=>YG (fun q1=>?_))) ?_
  (P:=QX (Zb.Library b) (Zb.Design b)∧((Zb.Zw b).length:Int)=((Za.ZM (Zb.Design b)).length:Int)∧Zgc (Zb.Zw b) (fun k w=>Zb1 w ((sinks (Zb.Design b) (k:Int)).length:Int)))
 ·rw [Zaz (XD a3) (fun k w=>Zb1 w ((sinks (Zb.Design b) (k:Int)).length:Int)) (bad:=false) (good:=true)
   (fun k w hx hk _=>by
    simp only [Zaj,show (k:Int)<((Zb.Zw b).length:Int) from by omega,if_true,Zu,hx,Option.bind_some,VO _ _ hD.few,Ziy w _ (Jz a3 hx)]
    constructor
    ·intro hh;rw [if_pos (YQ hh)]
    ·intro hh;rw [if_neg (fun q=>hh ((Vi _).1 q))])
   (fun _=>by simp only [Zaj,Int.lt_irrefl,if_false]),ZmB]
 ·unfold ZjW
  rw [show ((Zb.Zw b).length:Int)=((Za.ZM (Zb.Design b)).length:Int)↔(Zb.Zw b).length=(Za.ZM (Zb.Design b)).length from by omega]
theorem Zrw {l:List Pl} {k:Nat} {x:Pl} (hx:l[k]?=some x) :
  (((l.take (k+1)).filter (fun x=>!x.2.2.2.1)).map (fun x=>x.2.2.1))=if x.2.2.2.1=true then (((l.take k).filter (fun x=>!x.2.2.2.1)).map (fun x=>x.2.2.1)) else (((l.take k).filter (fun x=>!x.2.2.2.1)).map (fun x=>x.2.2.1))++[x.2.2.1]:=by
 rw [YA hx,List.filter_append,List.map_append]
 by_cases h:x.2.2.2.1=true
 ·rw [if_pos h];simp [h]
 ·rw [if_neg h];simp [h]
theorem ZhE (b:Zb) (hb:sm YL b):Zc4 b=some (tr (ZjW b)):=by
 obtain ⟨a1,a2,a3⟩:=ZaJ hb
 have s3:=Zm a3
 unfold Zc4
 refine JZ (Xj (Zll _ _ a1 a2) (fun hD=>YG (fun q1=>?_))) ?_
  (P:=QX (Zb.Library b) (Zb.Design b)∧((Zb.Zw b).length:Int)=((Za.ZM (Zb.Design b)).length:Int)∧Zgc (Zb.Zw b) (fun k w=>Zb1 w ((sinks (Zb.Design b) (k:Int)).length:Int)))
 ·rw [Zi (by omega),Zi (by omega),Zi (by omega),Zi (by omega),Yl _ hD.few,Option.bind_some]
  have hpl:=Qn hD.few
  have:=YH (l:=places (Zb.Design b)) (ρ:=Bool) (fun k=>((k:Int),Zk7 (Zb.Zw b).length ((((places (Zb.Design b)).take k).filter (fun x=>!x.2.2.2.1)).map (fun x=>x.2.2.1)),())) (step:=fun v=>VD b (places (Zb.Design b)) v.1 v.2.1) (good:=tr (Zgc (Zb.Zw b) (fun k w=>Zb1 w ((sinks (Zb.Design b) (k:Int)).length:Int))))
   (fun k x hx hk=>by
    have hn:=ZaH hD (List.mem_of_getElem? hx)
    have hl1:=List.length_filter_le (fun x:Pl=>!x.2.2.2.1) ((places (Zb.Design b)).take k)
    rw [List.length_take] at hl1
    simp only [VD,show (k:Int)<((places (Zb.Design b)).length:Int) from by omega,if_true,Zu,hx,Option.bind_some,Zrw hx]
    by_cases hd:x.2.2.2.1=true
    ·rw [if_pos hd,if_pos hd,JJ (by omega)]
    ·rw [if_neg hd,if_neg hd,Zhw hn.1 (by have:=hn.2;show x.2.2.1<_;omega) (by rw [List.length_map];omega) (F:=fun o=>some (Sum.inl (IntKind.i64.wrap ((k:Int)+1),o,()))),JJ (by omega)])
   (by
    simp only [VD,Int.lt_irrefl,if_false,List.take_length]
    rw [Zaz (XD a3) (fun k w=>Zb1 w ((sinks (Zb.Design b) (k:Int)).length:Int)) (bad:=.inr false) (good:=.inr true)
     (fun k w hx hk _=>by
      have hc:(sinks (Zb.Design b) (k:Int)).length=_:=Zmf (k:Int) (places (Zb.Design b)) 0
      simp only [Zah,show (k:Int)<((Zb.Zw b).length:Int) from by omega,if_true,Zu,hx,Option.bind_some]
      rw [ZhQ hk,Option.bind_some,ZiA w _ (Jz a3 hx),Option.bind_some,hc]
      constructor
      ·intro hh;rw [if_pos (YQ hh)]
      ·intro hh;rw [if_neg (fun q=>hh ((Vi _).1 q))])
     (fun _=>by simp only [Zah,Int.lt_irrefl,if_false])]
    congr 1
    by_cases hh:Zgc (Zb.Zw b) (fun k w=>Zb1 w ((sinks (Zb.Design b) (k:Int)).length:Int))
    ·rw [Vu hh,YQ hh]
    ·rw [Qs hh,Yn hh])
  rw [List.take_zero,List.filter_nil,List.map_nil,Zoi] at this
  exact this
 ·unfold ZjW
  rw [show ((Zb.Zw b).length:Int)=((Za.ZM (Zb.Design b)).length:Int)↔(Zb.Zw b).length=(Za.ZM (Zb.Design b)).length from by omega]
structure ZaQ (b:Zb):Prop where
 ok:ZjW b
 sm:sm YL b
end Go.Proofs.YtehkanadahncgaaGreatDoor
