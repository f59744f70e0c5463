/-
  Plain laws: designs.
-/
import Derived.Test.YtfndhpjedmopdaaGreatDoorLB
namespace Go.Proofs.YtfndhpjedmopdaaGreatDoor
set_option linter.unusedVariables false
set_option linter.unusedSimpArgs false
open Go Go.Sx
theorem Zb2 {d:Za} (h:sm Z9 d):sm (.sl Zw) (Za.Instances d)∧sm (.sl Xa) (Za.Z0 d)∧sm (.sl .str) (Za.ZP d):=by
 refine ⟨?_,?_,?_⟩
 ·first | exact h.1 | exact h.2.1 | exact h.2.2.1 | exact h.2.2.2.1
 ·first | exact h.1 | exact h.2.1 | exact h.2.2.1 | exact h.2.2.2.1
 ·first | exact h.1 | exact h.2.1 | exact h.2.2.1 | exact h.2.2.2.1
theorem Ziz {x:Zd} (h:sm Zw x):sm .str (Zd.Name x)∧sm (.sl (.int .i64)) (Zd.ZP x):=by
 refine ⟨?_,?_⟩
 ·first | exact h.1 | exact h.2.1 | exact h.2.2.1 | exact h.2.2.2.1
 ·first | exact h.1 | exact h.2.1 | exact h.2.2.1 | exact h.2.2.2.1
theorem Zvr {x:ZI} (h:sm Xa x):sm .str (ZI.Name x):=by
 first | exact h.1 | exact h.2.1 | exact h.2.2.1 | exact h.2.2.2.1
theorem Zgy (d:Za) (h:sm Z9 d):Va d=some (tr (Zj4 d)):=by
 obtain ⟨h1,h2,h3⟩:=Zb2 h
 have s1:=Zm h1
 have s2:=Zm h2
 have s3:=Zm h3
 unfold Va
 refine gather (l:=Za.Instances d) s1 Zd.Name (fun k x o hx hk ho=>?_) ?_
 ·simp only [XK,hk,if_true,Zr,hx,Option.bind_some]
 simp only [XK,Int.lt_irrefl,if_false]
 have hi:(Zbk d).length=(Za.Instances d).length:=by simp [Zbk]
 have hp:(ZcQ d).length=(Za.Z0 d).length:=by simp [ZcQ]
 refine gather (l:=Za.Z0 d) s2 ZI.Name (fun k x o hx hk ho=>?_) ?_
 ·simp only [XI,hk,if_true,Zr,hx,Option.bind_some]
 simp only [XI,Int.lt_irrefl,if_false]
 rw [show List.map ZI.Name (Za.Z0 d)=ZcQ d from rfl,show List.map Zd.Name (Za.Instances d)=Zbk d from rfl]
 simp only [hi,hp,ZbC _ (show (Zbk d).length≤4611686018427387904 by omega),ZbC _ (show (ZcQ d).length≤4611686018427387904 by omega),ZbC _ (show (Za.ZP d).length≤4611686018427387904 by omega),Option.bind_some]
 unfold Zj4
 rw [hi,hp]
 by_cases a:(Za.Instances d).length≤14
 ·rw [if_pos (by omega)]
  by_cases b:(Za.ZP d).length≤30
  ·rw [if_pos (by omega)]
   by_cases c:(Za.Z0 d).length≤8
   ·rw [if_pos (by omega)]
    by_cases e:Jb (Zbk d) (Za.Instances d).length
    ·rw [if_pos (YS e)]
     by_cases f:Jb (Za.ZP d) (Za.ZP d).length
     ·rw [if_pos (YS f)]
      congr 3
      exact Jq ⟨fun q=>⟨a,b,c,e,f,q⟩,fun q=>q.2.2.2.2.2⟩
     ·rw [if_neg (by rw [Yr f];simp),Yr (fun q=>f q.2.2.2.2.1)]
    ·rw [if_neg (by rw [Yr e];simp),Yr (fun q=>e q.2.2.2.1)]
   ·rw [if_neg (by omega),Yr (fun q=>c q.2.2.1)]
  ·rw [if_neg (by omega),Yr (fun q=>b q.2.1)]
 ·rw [if_neg (by omega),Yr (fun q=>a q.1)]
def ZlT (n:Nat) (s:List Int):List Int:=(List.range n).map (fun (j:Nat)=>((s.countP (fun x=>decide (x=(j:Int))):Nat):Int))
theorem Zgv (n:Nat) (s:List Int):(ZlT n s).length=n:=by simp [ZlT]
theorem ZoG (n:Nat):ZlT n []=List.replicate n 0:=by
 apply List.ext_getElem?
 intro i
 simp only [ZlT,List.countP_nil,List.getElem?_map,List.getElem?_replicate,List.getElem?_range]
 by_cases h:i<n
 ·simp [h]
 ·simp [h]
theorem Zia {n:Nat} {s:List Int} {j:Nat} (h:j<n):(ZlT n s)[j]?=some ((s.countP (fun x=>decide (x=(j:Int))):Nat):Int):=by
 simp [ZlT,h]
theorem ZvO {n:Nat} {s:List Int} {x:Int} (h0:0≤x) (h1:x<(n:Int)):atI (ZlT n s) x=some ((s.countP (fun y=>decide (y=x)):Nat):Int):=by
 refine VK h0 ?_
 rw [Zia (by omega),show ((x.toNat:Nat):Int)=x by omega]
theorem Zun {n:Nat} {s:List Int} {x:Int} (h0:0≤x) (h1:x<(n:Int)):List.set (ZlT n s) (Int.toNat x) (((s.countP (fun y=>decide (y=x)):Nat):Int)+1)=ZlT n (s++[x]):=by
 apply List.ext_getElem?
 intro i
 rw [List.getElem?_set]
 by_cases hi:i<n
 ·rw [Zia hi,Zia hi,List.countP_append,Zgv]
  by_cases e:x.toNat=i
  ·subst e
   rw [if_pos rfl,if_pos (by omega),show ((x.toNat:Nat):Int)=x by omega]
   simp
  ·rw [if_neg e]
   have:¬x=(i:Int):=by omega
   simp [List.countP_cons,this]
 ·have h1:(ZlT n s)[i]?=none:=by rw [List.getElem?_eq_none];rw [Zgv];omega
  have h2:(ZlT n (s++[x]))[i]?=none:=by rw [List.getElem?_eq_none];rw [Zgv];omega
  rw [h1,h2]
  split
  ·split
   ·rename_i h3;rw [Zgv] at h3;omega
   ·rfl
  ·rfl
theorem Zhh {n:Nat} {s:List Int} {x:Int} (h0:0≤x) (h1:x<(n:Int)) (hs:s.length≤1048576000) {τ:Type} (F:List Int→Option τ) :
  ((atI (ZlT n s) x).bind fun y=>F (List.set (ZlT n s) (Int.toNat x) (IntKind.i64.wrap (y+1))))=F (ZlT n (s++[x])):=by
 have h2:=List.countP_le_length (p:=fun y=>decide (y=x)) (l:=s)
 rw [ZvO h0 h1,Option.bind_some,Jd (by omega) (by omega),Zun h0 h1]
def Qa (x:Zd):Int:=(Zd.ZP x).getLastD 0
def ZbW (d:Za) (n:Int):Prop:=0≤n∧n≤((Za.ZP d).length:Int)-1
def ZiU (a:Zl) (d:Za) (x:Zd):Prop :=
 (0≤Zd.Cell x∧Zd.Cell x≤((Zl.Cells a).length:Int)-1)∧(∃ c,(Zl.Cells a)[(Zd.Cell x).toNat]?=some c∧(Zd.ZP x).length=(Zh.YC c).length)∧∀ n∈Zd.ZP x,ZbW d n
def ZiM (d:Za) (p:ZI):Prop:=(1≤ZI.Dir p∧ZI.Dir p≤2)∧ZbW d (ZI.Net p)
def ZmL (d:Za):List Int:=(Za.Instances d).map Qa++((Za.Z0 d).filter (fun p=>decide (ZI.Dir p=1))).map ZI.Net
def Zgg (d:Za):Prop:=∀ x∈ZlT (Za.ZP d).length (ZmL d),x=1
def Vl (a:Zl) (d:Za):Prop:=Zqe a∧Zj4 d∧(∀ x∈Za.Instances d,ZiU a d x)∧(∀ p∈Za.Z0 d,ZiM d p)∧Zgg d
theorem ZiU.last {a:Zl} {d:Za} {x:Zd} (h:ZiU a d x) (hl:Zqe a) (hsm:(Zd.ZP x).length≤1048576):atI (Zd.ZP x) (IntKind.i64.wrap (((Zd.ZP x).length:Int)-1))=some (Qa x)∧ZbW d (Qa x):=by
 obtain ⟨_,⟨c,hc,hn⟩,hall⟩:=h
 have h2:2≤(Zh.YC c).length:=(hl.2.1 c (List.mem_of_getElem? hc)).2.1.1
 unfold Qa
 cases hN:Zd.ZP x with
 | nil=>rw [hN] at hn;simp at hn;omega
 | cons y r =>
  rw [hN] at hsm
  rw [Zvm hsm (by simp),Zr]
  have e:(y::r)[(y::r).length-1]?=some ((y::r).getLastD 0):=by
   rw [←List.getLast?_eq_getElem?,List.getLastD_eq_getLast?,List.getLast?_cons];rfl
  exact ⟨e,hall _ (by rw [hN];exact List.mem_of_getElem? e)⟩
theorem ZcN (d:Za) (n:Int) (h:sm Z9 d):YE d n=some (tr (ZbW d n)):=by
 have s3:=Zm (Zb2 h).2.2
 unfold YE
 rw [show YR (Za.ZP d)=some ((Za.ZP d).length:Int) from rfl,Option.bind_some,Jd (by omega) (by omega)]
 exact Zd5 (Zby _ _ _)
theorem Zf2 (d:Za) (a:Zl) (x:Zd) (hd:sm Z9 d) (ha:sm Z6 a) (hx:sm Zw x):X4 d a x=some (tr (ZiU a d x)):=by
 have sa:=Zm (ZnN ha)
 unfold X4
 rw [show Y6 (Zl.Cells a)=some ((Zl.Cells a).length:Int) from rfl,Option.bind_some,Jd (by omega) (by omega)]
 refine Zaf (P:=(0≤Zd.Cell x∧Zd.Cell x≤((Zl.Cells a).length:Int)-1)∧ZiU a d x) (Xp (Zby _ _ _) (fun hw=>?_)) ⟨fun q=>q.2,fun q=>⟨q.1,q⟩⟩
 obtain ⟨c,hc1,hc2⟩:=ZsH hw.1 (show Zd.Cell x<((Zl.Cells a).length:Int) by omega)
 rw [hc1,Option.bind_some]
 refine Zaf (P:=((Zd.ZP x).length:Int)=((Zh.YC c).length:Int)∧∀ n∈Zd.ZP x,ZbW d n) (YG (fun he=>?_)) ?_
 ·rw [QK (XJ (Ziz hx).2) (fun n=>!tr (ZbW d n)) (fun n _=>by
   unfold YV
   show (YE d n).bind _=_
   rw [ZcN d n hd];rfl),Option.bind_some]
  refine ZdR ?_
  rw [Bool.not_eq_true',List.any_eq_false]
  constructor
  ·intro q n hn
   have:=q n hn
   simp only [Bool.not_eq_true',Bool.not_eq_false] at this
   exact (VE _).1 this
  ·intro q n hn
   simp only [Bool.not_eq_true',Bool.not_eq_false]
   exact YS (q n hn)
 ·constructor
  ·rintro ⟨q1,q2⟩;exact ⟨hw,⟨c,hc2,by omega⟩,q2⟩
  ·rintro ⟨_,⟨c',q1,q2⟩,q3⟩
   rw [hc2] at q1;injection q1 with q1;subst q1
   exact ⟨by omega,q3⟩
theorem Zrj {d:Za} {k:Nat} {p:ZI} (hx:(Za.Z0 d)[k]?=some p) (s:List Int) :
  s++(((Za.Z0 d).take (k+1)).filter (fun p=>decide (ZI.Dir p=1))).map ZI.Net=(if ZI.Dir p=1 then (s++(((Za.Z0 d).take k).filter (fun p=>decide (ZI.Dir p=1))).map ZI.Net)++[ZI.Net p] else s++(((Za.Z0 d).take k).filter (fun p=>decide (ZI.Dir p=1))).map ZI.Net):=by
 rw [YD hx,List.filter_append,List.map_append]
 by_cases h:ZI.Dir p=1
 ·rw [if_pos h];simp [h]
 ·rw [if_neg h];simp [h]
theorem Zsv {d:Za} (k m:Nat):(((Za.Instances d).take m).map Qa++(((Za.Z0 d).take k).filter (fun p=>decide (ZI.Dir p=1))).map ZI.Net).length≤(Za.Instances d).length+(Za.Z0 d).length:=by
 have h:=List.length_filter_le (fun p=>decide (ZI.Dir p=1)) ((Za.Z0 d).take k)
 simp only [List.length_append,List.length_map,List.length_take] at h ⊢
 omega
theorem ZlD (a:Zl) (d:Za) (ha:sm Z6 a) (hd:sm Z9 d):Zcz a d=some (tr (Vl a d)):=by
 obtain ⟨h1,h2,h3⟩:=Zb2 hd
 have s1:=Zm h1
 have s2:=Zm h2
 have s3:=Zm h3
 unfold Zcz
 refine Zaf (P:=Zqe a∧Zj4 d∧(Zgm (Za.Instances d) (fun _ x=>ZiU a d x)∧(Zgm (Za.Z0 d) (fun _ p=>ZiM d p)∧Zgg d))) (Xp (ZkP a ha) (fun hL=>Xp (Zgy d hd) (fun hN=>?_))) (by rw [ZeT,ZeT];exact Iff.rfl)
 rw [Zi (by omega),Zi (by omega),Zi (by omega),Zi (by omega)]
 have:=Zh8 (l:=Za.Instances d) (ρ:=Bool) (fun k=>((k:Int),ZlT (Za.ZP d).length (((Za.Instances d).take k).map Qa),())) (fun _ x=>ZiU a d x) (step:=fun v=>VA a d v.1 v.2.1) (bad:=false) (good:=tr (Zgm (Za.Z0 d) (fun _ p=>ZiM d p)∧Zgg d))
  (fun k x hx hk _=>by
   have hsx:=Zag h1 hx
   simp only [VA,show (k:Int)<((Za.Instances d).length:Int) from by omega,if_true,Zr,hx,Option.bind_some,Zf2 d a x hd ha hsx]
   constructor
   ·intro hh
    obtain ⟨e1,e2⟩:=hh.last hL (Zm (Ziz hsx).2)
    rw [if_pos (YS hh),e1,Option.bind_some,Zhh e2.1 (by have:=e2.2;omega) (by simp only [List.length_map,List.length_take];omega) (F:=fun o=>some (Sum.inl (IntKind.i64.wrap ((k:Int)+1),o,()))),YD hx,List.map_append,Zah (by omega)]
    rfl
   ·intro hh;rw [if_neg (by rw [Yr hh];simp)])
  (fun hA=>by
   simp only [VA,Int.lt_irrefl,if_false,List.take_length]
   have:=Zh8 (l:=Za.Z0 d) (ρ:=Int×List Int×Unit ⊕ Bool) (fun k=>((k:Int),ZlT (Za.ZP d).length ((Za.Instances d).map Qa++(((Za.Z0 d).take k).filter (fun p=>decide (ZI.Dir p=1))).map ZI.Net),())) (fun _ p=>ZiM d p) (step:=fun v=>Qo d v.1 v.2.1) (bad:=.inr false) (good:=.inr (tr (Zgg d)))
    (fun k p hx hk _=>by
     have hl:=Zsv (d:=d) k (Za.Instances d).length
     rw [List.take_length] at hl
     simp only [Qo,show (k:Int)<((Za.Z0 d).length:Int) from by omega,if_true,Zr,hx,Option.bind_some,ZcN d _ hd,Zrj hx]
     by_cases d1:ZI.Dir p=1
     ·simp only [d1,if_true]
      constructor
      ·intro hh
       rw [if_pos (YS hh.2),Zhh hh.2.1 (by have:=hh.2.2;omega) (by omega) (F:=fun o=>some (Sum.inl (IntKind.i64.wrap ((k:Int)+1),o,()))),Zah (by omega)]
      ·intro hh
       rw [if_neg (by rw [Yr (fun q=>hh ⟨by omega,q⟩)];simp)]
     ·simp only [d1,if_false]
      by_cases d2:ZI.Dir p=2
      ·simp only [d2,if_true]
       constructor
       ·intro hh
        rw [if_pos (YS hh.2),Zah (by omega)]
       ·intro hh
        rw [if_neg (by rw [Yr (fun q=>hh ⟨by omega,q⟩)];simp)]
      ·simp only [d2,if_false]
       exact ⟨fun hh=>by have:=hh.1;omega,fun _=>trivial⟩)
    (fun _=>by
     simp only [Qo,Int.lt_irrefl,if_false,List.take_length]
     rw [J7 (show Len _ by show List.length _≤_;rw [Zgv];omega) (fun n=>!decide (n=1)) (fun n _=>rfl),Option.bind_some]
     congr 3
     refine (Zon ?_).symm
     rw [Bool.not_eq_true',List.any_eq_false]
     simp only [Bool.not_eq_true',Bool.not_eq_false,decide_eq_true_eq,decide_eq_false_iff_not,Classical.not_not]
     exact Iff.rfl)
   refine (show Zu (fun v=>Qo d v.1 v.2.1) ((0:Int),ZlT (Za.ZP d).length ((Za.Instances d).map Qa),())=_ from (by simpa using this)).trans ?_
   by_cases hP:Zgm (Za.Z0 d) (fun _ p=>ZiM d p)
   ·rw [VP hP];congr 2;exact Jq ⟨fun q=>⟨hP,q⟩,fun q=>q.2⟩
   ·rw [QF hP,Yr (fun q=>hP q.1)])
 rw [ZjA] at this
 refine Eq.trans ?_ this
 rw [List.take_zero,List.map_nil,ZoG]
 rfl
end Go.Proofs.YtfndhpjedmopdaaGreatDoor
/-
  Plain laws: designs by the reference; places.
-/
namespace Go.Proofs.YtfndhpjedmopdaaGreatDoor
set_option linter.unusedVariables false
set_option linter.unusedSimpArgs false
open Go Go.Sx
theorem Zlz (a:Zl) (d:Za) (ha:sm Z6 a) (hd:sm Z9 d):ZcC a d=some (tr (Zgm (Za.Instances d) (fun _ x=>ZiU a d x)∧Zgm (Za.Z0 d) (fun _ p=>ZiM d p))):=by
 obtain ⟨h1,h2,h3⟩:=Zb2 hd
 have s1:=Zm h1
 have s2:=Zm h2
 have s3:=Zm h3
 have sa:=Zm (ZnN ha)
 have e1:IntKind.i64.wrap (((Za.ZP d).length:Int)-1)=((Za.ZP d).length:Int)-1:=Jd (by omega) (by omega)
 have e2:IntKind.i64.wrap (((Zl.Cells a).length:Int)-1)=((Zl.Cells a).length:Int)-1:=Jd (by omega) (by omega)
 unfold ZcC
 rw [ZaU (XJ h1) (fun _ x=>ZiU a d x) (bad:=false) (good:=tr (Zgm (Za.Z0 d) (fun _ p=>ZiM d p)))
  (fun k x hx hk _=>by
   have hsx:=Zag h1 hx
   simp only [JW,show (k:Int)<((Za.Instances d).length:Int) from by omega,if_true,Zr,hx,Option.bind_some,Zbs,e2]
   by_cases hc:0≤Zd.Cell x∧Zd.Cell x≤((Zl.Cells a).length:Int)-1
   ·obtain ⟨c,hc1,hc2⟩:=ZsH hc.1 (show Zd.Cell x<((Zl.Cells a).length:Int) by omega)
    rw [if_pos (YS hc),hc1,Option.bind_some]
    by_cases hp:((Zd.ZP x).length:Int)=((Zh.YC c).length:Int)
    ·rw [if_pos hp,ZaU (XJ (Ziz hsx).2) (fun _ n=>ZbW d n) (bad:=.inr false) (good:=.inl (IntKind.i64.wrap ((k:Int)+1),()))
      (fun j n hn hj _=>by
       simp only [Zad,show (j:Int)<((Zd.ZP x).length:Int) from by omega,if_true,Zr,hn,Option.bind_some,Zbs,e1]
       constructor
       ·intro hh;exact if_pos (YS hh)
       ·intro hh;exact if_neg (fun q=>hh ((VE _).1 q)))
      (fun _=>by simp only [Zad,Int.lt_irrefl,if_false])]
     constructor
     ·intro hh;rw [VP (ZeT.2 hh.2.2)]
     ·intro hh;rw [QF (fun q=>hh ⟨hc,⟨c,hc2,by omega⟩,ZeT.1 q⟩)]
    ·rw [if_neg hp]
     refine ⟨fun hh=>?_,fun _=>rfl⟩
     obtain ⟨_,⟨c',q1,q2⟩,_⟩:=hh
     rw [hc2] at q1;injection q1 with q1;subst q1
     exact absurd (by omega) hp
   ·rw [if_neg (by rw [Yr hc];simp)]
    exact ⟨fun hh=>absurd hh.1 hc,fun _=>rfl⟩)
  (fun _=>by
   simp only [JW,Int.lt_irrefl,if_false]
   rw [ZaU (XJ h2) (fun _ p=>ZiM d p) (bad:=.inr false) (good:=.inr true)
    (fun k p hx hk _=>by
     simp only [Zab,show (k:Int)<((Za.Z0 d).length:Int) from by omega,if_true,Zr,hx,Option.bind_some,Zbs,e1]
     by_cases hc:1≤ZI.Dir p∧ZI.Dir p≤2
     ·rw [if_pos (YS hc)]
      constructor
      ·intro hh;exact if_pos (YS hh.2)
      ·intro hh;exact if_neg (fun q=>hh ⟨hc,(VE _).1 q⟩)
     ·rw [if_neg (by rw [Yr hc];simp)]
      exact ⟨fun hh=>absurd hh.1 hc,fun _=>rfl⟩)
    (fun _=>by simp only [Zab,Int.lt_irrefl,if_false])]
   congr 1
   by_cases hh:Zgm (Za.Z0 d) (fun _ p=>ZiM d p)
   ·rw [VP hh,YS hh]
   ·rw [QF hh,Yr hh])]
 rw [ZjA]
theorem Zrl {α:Type} {l:List α} {f:α→List UInt8} (h:∀ x∈l,(f x).length≤4611686018427387904):∀ s∈l.map f,s.length≤4611686018427387904:=by
 intro s hs
 obtain ⟨x,hx,rfl⟩:=List.mem_map.1 hs
 exact h x hx
theorem ZlC (a:Zl) (d:Za) (ha:sm Z6 a) (hd:sm Z9 d):Zcv a d=some (tr (Vl a d)):=by
 obtain ⟨h1,h2,h3⟩:=Zb2 hd
 have s1:=Zm h1
 have s2:=Zm h2
 have s3:=Zm h3
 unfold Zcv
 refine Zaf (Xp (ZkZ a ha) (fun hL=>ZgK (fun a1=>ZgK (fun a2=>ZgK (fun a3=>Xp (Zlz a d ha hd) (fun hP=>?_))))))
  (P:=Zqe a∧¬(14:Int)<((Za.Instances d).length:Int)∧¬(30:Int)<((Za.ZP d).length:Int)∧¬(8:Int)<((Za.Z0 d).length:Int)∧(Zgm (Za.Instances d) (fun _ x=>ZiU a d x)∧Zgm (Za.Z0 d) (fun _ p=>ZiM d p))∧(Jb (Zbk d) (Zbk d).length∧Jb (ZcQ d) (ZcQ d).length∧Jb (Za.ZP d) (Za.ZP d).length)∧Zgg d) ?_
 ·have hi:(Zbk d).length=(Za.Instances d).length:=by simp [Zbk]
  have hp:(ZcQ d).length=(Za.Z0 d).length:=by simp [ZcQ]
  refine gather (l:=Za.Instances d) s1 Zd.Name (fun k x o hx hk ho=>?_) ?_
  ·simp only [JX,hk,if_true,Zr,hx,Option.bind_some]
  simp only [JX,Int.lt_irrefl,if_false]
  refine gather (l:=Za.Z0 d) s2 ZI.Name (fun k x o hx hk ho=>?_) ?_
  ·simp only [JO,hk,if_true,Zr,hx,Option.bind_some]
  simp only [JO,Int.lt_irrefl,if_false]
  rw [show List.map ZI.Name (Za.Z0 d)=ZcQ d from rfl,show List.map Zd.Name (Za.Instances d)=Zbk d from rfl]
  simp only [Ze9 (Zbk d) (by omega) (Zrl (fun x hx=>Zhl (Ziz (Zrg h1 hx)).1)),Ze9 (ZcQ d) (by omega) (Zrl (fun x hx=>Zhl (Zvr (Zrg h2 hx)))),Ze9 (Za.ZP d) (by omega) (fun s hs=>Zhl (Zrg h3 hs)),Option.bind_some]
  by_cases n1:Jb (Zbk d) (Zbk d).length
  ·rw [if_pos (YS n1)]
   by_cases n2:Jb (ZcQ d) (ZcQ d).length
   ·rw [if_pos (YS n2)]
    by_cases n3:Jb (Za.ZP d) (Za.ZP d).length
    ·rw [if_pos (YS n3),Zi (by omega),Zi (by omega),Zi (by omega),Zi (by omega)]
     have:=YH (l:=Za.Instances d) (ρ:=(List (List UInt8))×Int×Unit ⊕ ((List (List UInt8))×Int×Unit ⊕ Bool)) (fun k=>((k:Int),ZlT (Za.ZP d).length (((Za.Instances d).take k).map Qa),())) (step:=fun v=>Ql d v.1 v.2.1) (good:=.inr (.inr (tr (Zgg d))))
      (fun k x hx hk=>by
       have hsx:=Zag h1 hx
       obtain ⟨e1,e2⟩:=(hP.1 k x hx).last hL (Zm (Ziz hsx).2)
       simp only [Ql,show (k:Int)<((Za.Instances d).length:Int) from by omega,if_true,Zr,hx,Option.bind_some]
       rw [e1,Option.bind_some,Zhh e2.1 (by have:=e2.2;omega) (by simp only [List.length_map,List.length_take];omega) (F:=fun o=>some (Sum.inl (IntKind.i64.wrap ((k:Int)+1),o,()))),YD hx,List.map_append,Zah (by omega)]
       rfl)
      (by
       simp only [Ql,Int.lt_irrefl,if_false,List.take_length]
       have:=YH (l:=Za.Z0 d) (ρ:=Int×List Int×Unit ⊕ ((List (List UInt8))×Int×Unit ⊕ ((List (List UInt8))×Int×Unit ⊕ Bool))) (fun k=>((k:Int),ZlT (Za.ZP d).length ((Za.Instances d).map Qa++(((Za.Z0 d).take k).filter (fun p=>decide (ZI.Dir p=1))).map ZI.Net),())) (step:=fun v=>Qm d v.1 v.2.1) (good:=.inr (.inr (.inr (tr (Zgg d)))))
        (fun k p hx hk=>by
         have hl:=Zsv (d:=d) k (Za.Instances d).length
         rw [List.take_length] at hl
         have hpo:=hP.2 k p hx
         simp only [Qm,show (k:Int)<((Za.Z0 d).length:Int) from by omega,if_true,Zr,hx,Option.bind_some,Zrj hx]
         by_cases d1:ZI.Dir p=1
         ·simp only [d1,if_true]
          rw [Zhh hpo.2.1 (by have:=hpo.2.2;omega) (by omega) (F:=fun o=>some (Sum.inl (IntKind.i64.wrap ((k:Int)+1),o,()))),Zah (by omega)]
         ·simp only [d1,if_false]
          rw [Zah (by omega)])
        (by
         simp only [Qm,Int.lt_irrefl,if_false,List.take_length]
         rw [ZaU (l:=ZlT (Za.ZP d).length ((Za.Instances d).map Qa++((Za.Z0 d).filter (fun p=>decide (ZI.Dir p=1))).map ZI.Net)) (show List.length _≤_ by rw [Zgv];omega) (fun _ x=>x=1) (bad:=.inr (.inr (.inr (.inr false)))) (good:=.inr (.inr (.inr (.inr true))))
          (fun k x hx hk _=>by
           simp only [Zac,show (k:Int)<((ZlT (Za.ZP d).length ((Za.Instances d).map Qa++((Za.Z0 d).filter (fun p=>decide (ZI.Dir p=1))).map ZI.Net)).length:Int) from by omega,if_true,Zr,hx,Option.bind_some]
           constructor
           ·intro hh;rw [if_pos hh]
           ·intro hh;rw [if_neg hh])
          (fun _=>by simp only [Zac,Int.lt_irrefl,if_false])]
         congr 1
         have e:Zgm (ZlT (Za.ZP d).length ((Za.Instances d).map Qa++((Za.Z0 d).filter (fun p=>decide (ZI.Dir p=1))).map ZI.Net)) (fun _ x=>x=1)↔Zgg d:=by
          rw [ZeT];exact Iff.rfl
         by_cases hh:Zgg d
         ·rw [VP (e.2 hh),YS hh]
         ·rw [QF (fun q=>hh (e.1 q)),Yr hh])
       refine (show Zu (fun v=>Qm d v.1 v.2.1) ((0:Int),ZlT (Za.ZP d).length ((Za.Instances d).map Qa),())=_ from (by simpa using this)).trans ?_
       rfl)
     rw [List.take_zero,List.map_nil,ZoG] at this
     refine (show Zu (fun v=>Ql d v.1 v.2.1) ((0:Int),List.replicate (Za.ZP d).length 0,())=_ from this).trans ?_
     congr 3
     exact Jq ⟨fun q=>⟨⟨n1,n2,n3⟩,q⟩,fun q=>q.2⟩
    ·rw [if_neg (by rw [Yr n3];simp),Yr (fun q=>n3 q.1.2.2)]
   ·rw [if_neg (by rw [Yr n2];simp),Yr (fun q=>n2 q.1.2.1)]
  ·rw [if_neg (by rw [Yr n1];simp),Yr (fun q=>n1 q.1.1)]
 ·unfold Vl Zj4
  rw [ZeT,ZeT]
  constructor
  ·rintro ⟨q1,q2,q3,q4,⟨q5,q6⟩,⟨q7,q8,q9⟩,q10⟩
   exact ⟨q1,⟨by omega,by omega,by omega,q7,q9,q8⟩,q5,q6,q10⟩
  ·rintro ⟨q1,⟨q2,q3,q4,q7,q9,q8⟩,q5,q6,q10⟩
   exact ⟨q1,by omega,by omega,by omega,⟨q5,q6⟩,⟨q7,q8,q9⟩,q10⟩
end Go.Proofs.YtfndhpjedmopdaaGreatDoor
/-
  Plain laws: places, sinks, wires.
-/
namespace Go.Proofs.YtfndhpjedmopdaaGreatDoor
set_option linter.unusedVariables false
set_option linter.unusedSimpArgs false
open Go Go.Sx
def cat {α β:Type} (f:Nat→α→List β):Nat→List α→List β
 | _,[]=>[]
 | k,x::r=>f k x++cat f (k+1) r
theorem Zdz {α β:Type} (f:Nat→α→List β):∀ (l r:List α) (m:Nat),cat f m (l++r)=cat f m l++cat f (m+l.length) r
 | [],r,m=>by simp [cat]
 | x::l,r,m=>by
  simp only [List.cons_append,cat,List.length_cons,Zdz f l r,List.append_assoc]
  rw [show m+1+l.length=m+(l.length+1) by omega]
theorem ZgN {α β:Type} {f:Nat→α→List β} {l:List α} {k:Nat} {x:α} (hx:l[k]?=some x):cat f 0 (l.take (k+1))=cat f 0 (l.take k)++f k x:=by
 have hk:=(List.getElem?_eq_some_iff.1 hx).1
 rw [YD hx,Zdz]
 simp only [cat,Nat.zero_add,List.length_take,List.append_nil]
 rw [show min k l.length=k by omega]
theorem ZhY {α β:Type} {f:Nat→α→List β} {y:β}:∀ {l:List α} {m:Nat},y∈cat f m l↔∃ (k:Nat) (x:α),l[k]?=some x∧y∈f (m+k) x
 | [],m=>by simp [cat]
 | z::r,m=>by
  simp only [cat,List.mem_append,ZhY (l:=r)]
  constructor
  ·rintro (h | ⟨k,x,h1,h2⟩)
   ·exact ⟨0,z,rfl,h⟩
   ·exact ⟨k+1,x,by simpa using h1,by rw [show m+(k+1)=m+1+k by omega];exact h2⟩
  ·rintro ⟨k,x,h1,h2⟩
   cases k with
   | zero=>simp at h1;subst h1;exact .inl h2
   | succ k=>exact .inr ⟨k,x,by simpa using h1,by rw [show m+1+k=m+(k+1) by omega];exact h2⟩
theorem Zi3 {α β:Type} {f:Nat→α→List β} {c:Nat}:∀ {l:List α} {m:Nat},(∀ k,∀ x∈l,(f k x).length≤c)→(cat f m l).length≤c*l.length
 | [],m,_=>by simp [cat]
 | z::r,m,h=>by
  simp only [cat,List.length_append,List.length_cons]
  have h1:=h m z (by simp)
  have h2:=Zi3 (f:=f) (l:=r) (m:=m+1) (fun k x hx=>h k x (by simp [hx]))
  rw [Nat.mul_add];omega
theorem Zdq {α β ρ:Type} {l:List α} (f:Nat→α→List β) (acc:List β) {step:List β×Int×Unit→Option ((List β×Int×Unit) ⊕ ρ)} {good:ρ}
  (hs:∀ (k:Nat) (x:α),l[k]?=some x→k<l.length→step (acc++cat f 0 (l.take k),(k:Int),())=some (.inl ((acc++cat f 0 (l.take k))++f k x,((k+1:Nat):Int),())))
  (hx:step (acc++cat f 0 l,(l.length:Int),())=some (.inr good)):Zu step (acc,(0:Int),())=some good:=by
 have:=YH (l:=l) (ρ:=ρ) (fun k=>(acc++cat f 0 (l.take k),(k:Int),())) (step:=step) (good:=good) (fun k x hx hk=>by
  rw [hs k x hx hk,ZgN hx,List.append_assoc]) (by simp only [List.take_length];exact hx)
 simpa [cat] using this
abbrev Pl:=Int×Int×Int×Bool×Unit
def QH (i:Nat) (x:Zd):List Pl:=cat (fun j n=>[((i:Int),(j:Int),n,decide ((j:Int)=IntKind.i64.wrap (((Zd.ZP x).length:Int)-1)),())]) 0 (Zd.ZP x)
def Ze0 (j:Nat) (p:ZI):List Pl:=[((-1:Int),(j:Int),ZI.Net p,decide (ZI.Dir p=1),())]
def places (d:Za):List Pl:=cat QH 0 (Za.Instances d)++cat Ze0 0 (Za.Z0 d)
theorem Zsd (i:Nat) (x:Zd):(QH i x).length≤(Zd.ZP x).length:=by
 have:=Zi3 (f:=fun j n=>[((i:Int),(j:Int),n,decide ((j:Int)=IntKind.i64.wrap (((Zd.ZP x).length:Int)-1)),())]) (c:=1) (l:=Zd.ZP x) (m:=0) (fun _ _ _=>by simp)
 simpa [QH] using this
structure Few (d:Za):Prop where
 insts:(Za.Instances d).length≤14
 ports:(Za.Z0 d).length≤8
 nets:∀ x∈Za.Instances d,(Zd.ZP x).length≤5
theorem Vl.few {a:Zl} {d:Za} (h:Vl a d):Few d:=by
 refine ⟨h.2.1.1,h.2.1.2.2.1,fun x hx=>?_⟩
 obtain ⟨_,⟨c,hc,hn⟩,_⟩:=h.2.2.1 x hx
 have:=(h.1.2.1 c (List.mem_of_getElem? hc)).2.1.2.1
 omega
theorem Ze3 {d:Za} (h:Few d) (k:Nat):(cat QH 0 ((Za.Instances d).take k)).length≤70:=by
 have:=Zi3 (f:=QH) (c:=5) (l:=(Za.Instances d).take k) (m:=0) (fun i x hx=>by
  have h1:=Zsd i x
  have h2:=h.nets x (List.mem_of_mem_take hx)
  omega)
 have h1:=h.insts
 rw [List.length_take] at this
 omega
theorem ZhK {d:Za} (h:Few d) (k:Nat):(cat Ze0 0 ((Za.Z0 d).take k)).length≤8:=by
 have:=Zi3 (f:=Ze0) (c:=1) (l:=(Za.Z0 d).take k) (m:=0) (fun i x hx=>by simp [Ze0])
 have h1:=h.ports
 rw [List.length_take] at this
 omega
theorem Qz {d:Za} (h:Few d):(places d).length≤78:=by
 have h1:=Ze3 h (Za.Instances d).length
 have h2:=ZhK h (Za.Z0 d).length
 rw [List.take_length] at h1 h2
 unfold places
 rw [List.length_append];omega
theorem Yn (d:Za) (h:Few d):Yj d=some (places d):=by
 have h1:=h.insts
 have h2:=h.ports
 unfold Yj
 refine Zdq (l:=Za.Instances d) QH [] (fun k x hx hk=>?_) ?_
 ·have hn:=h.nets x (List.mem_of_getElem? hx)
  have hl:=Ze3 h k
  simp only [List.nil_append,QA,show (k:Int)<((Za.Instances d).length:Int) from by omega,if_true,Zr,hx,Option.bind_some]
  refine Zdq (l:=Zd.ZP x) (fun j n=>[((k:Int),(j:Int),n,decide ((j:Int)=IntKind.i64.wrap (((Zd.ZP x).length:Int)-1)),())]) _ (fun j n hj hk'=>?_) ?_
  ·have hl2:=Zi3 (f:=fun j n=>[((k:Int),(j:Int),n,decide ((j:Int)=IntKind.i64.wrap (((Zd.ZP x).length:Int)-1)),())]) (c:=1) (l:=(Zd.ZP x).take j) (m:=0) (fun _ _ _=>by simp)
   rw [List.length_take] at hl2
   simp only [QD,show (j:Int)<((Zd.ZP x).length:Int) from by omega,if_true,Zr,hj,Option.bind_some]
   rw [Zi (by rw [List.length_append,List.length_singleton];omega),Zah (by omega)]
  ·simp only [QD,Int.lt_irrefl,if_false]
   rw [Zah (by omega)];rfl
 ·have hl:=Ze3 h (Za.Instances d).length
  rw [List.take_length] at hl
  simp only [List.nil_append,QA,Int.lt_irrefl,if_false]
  refine Zdq (l:=Za.Z0 d) Ze0 _ (fun j p hj hk'=>?_) ?_
  ·have hl2:=ZhK h j
   simp only [Qw,show (j:Int)<((Za.Z0 d).length:Int) from by omega,if_true,Zr,hj,Option.bind_some]
   rw [Zi (by rw [List.length_append,List.length_singleton];omega),Zah (by omega)];rfl
  ·simp only [Qw,Int.lt_irrefl,if_false];rfl
theorem Vs (d:Za) (h:Few d):XA d=some (places d):=by
 have h1:=h.insts
 have h2:=h.ports
 unfold XA
 refine Zdq (l:=Za.Instances d) QH [] (fun k x hx hk=>?_) ?_
 ·have hn:=h.nets x (List.mem_of_getElem? hx)
  have hl:=Ze3 h k
  simp only [List.nil_append,Jl,show (k:Int)<((Za.Instances d).length:Int) from by omega,if_true,Zr,hx,Option.bind_some]
  refine Zdq (l:=Zd.ZP x) (fun j n=>[((k:Int),(j:Int),n,decide ((j:Int)=IntKind.i64.wrap (((Zd.ZP x).length:Int)-1)),())]) _ (fun j n hj hk'=>?_) ?_
  ·have hl2:=Zi3 (f:=fun j n=>[((k:Int),(j:Int),n,decide ((j:Int)=IntKind.i64.wrap (((Zd.ZP x).length:Int)-1)),())]) (c:=1) (l:=(Zd.ZP x).take j) (m:=0) (fun _ _ _=>by simp)
   rw [List.length_take] at hl2
   simp only [Jf,show (j:Int)<((Zd.ZP x).length:Int) from by omega,if_true,Zr,hj,Option.bind_some]
   rw [Zi (by rw [List.length_append,List.length_singleton];omega),Zah (by omega)]
  ·simp only [Jf,Int.lt_irrefl,if_false]
   rw [Zah (by omega)];rfl
 ·have hl:=Ze3 h (Za.Instances d).length
  rw [List.take_length] at hl
  simp only [List.nil_append,Jl,Int.lt_irrefl,if_false]
  refine Zdq (l:=Za.Z0 d) Ze0 _ (fun j p hj hk'=>?_) ?_
  ·have hl2:=ZhK h j
   simp only [Ji,show (j:Int)<((Za.Z0 d).length:Int) from by omega,if_true,Zr,hj,Option.bind_some]
   rw [Zi (by rw [List.length_append,List.length_singleton];omega),Zah (by omega)];rfl
  ·simp only [Ji,Int.lt_irrefl,if_false];rfl
def Zbw (net:Int) (i:Nat) (x:Pl):List Int:=if x.2.2.1=net then (if x.2.2.2.1=true then [] else [(i:Int)]) else []
def sinks (d:Za) (net:Int):List Int:=cat (Zbw net) 0 (places d)
theorem Zfz (net:Int) (l:List Pl) (m:Nat):(cat (Zbw net) m l).length≤l.length:=by
 have:=Zi3 (f:=Zbw net) (c:=1) (l:=l) (m:=m) (fun i x _=>by
  unfold Zbw;split
  ·split<;>simp
  ·simp)
 omega
theorem Zis (d:Za) (net:Int) (h:Few d):JH d net=some (sinks d net):=by
 have hp:=Qz h
 unfold JH
 rw [Yn d h,Option.bind_some]
 refine Zdq (l:=places d) (Zbw net) [] (fun k x hx hk=>?_) ?_
 ·have hl:=Zfz net ((places d).take k) 0
  rw [List.length_take] at hl
  simp only [List.nil_append,QU,show (k:Int)<((places d).length:Int) from by omega,if_true,Zr,hx,Option.bind_some,Zbw,Zah (show k≤1048576 by omega)]
  split
  ·split
   ·rw [List.append_nil]
   ·rw [Zi (by
     show (List.length _+1)*8≤_
     have:(cat (Zbw net) 0 ((places d).take k)).length≤78:=by omega
     omega)]
  ·rw [List.append_nil]
 ·simp only [List.nil_append,QU,Int.lt_irrefl,if_false];rfl
theorem Zar (d:Za) (net:Int) (h:Few d):Qe d net=some (sinks d net):=by
 have hp:=Qz h
 unfold Qe
 rw [Vs d h,Option.bind_some]
 refine Zdq (l:=places d) (Zbw net) [] (fun k x hx hk=>?_) ?_
 ·have hl:=Zfz net ((places d).take k) 0
  rw [List.length_take] at hl
  simp only [List.nil_append,J6,show (k:Int)<((places d).length:Int) from by omega,if_true,Zr,hx,Option.bind_some,Zbw,Zah (show k≤1048576 by omega)]
  split
  ·split
   ·rw [List.append_nil]
   ·rw [Zi (by
     show (List.length _+1)*8≤_
     have:(cat (Zbw net) 0 ((places d).take k)).length≤78:=by omega
     omega)]
  ·rw [List.append_nil]
 ·simp only [List.nil_append,J6,Int.lt_irrefl,if_false];rfl
theorem Zmq (net:Int):∀ (l:List Pl) (m:Nat),(cat (Zbw net) m l).length=((l.filter (fun x=>!x.2.2.2.1)).map (fun x=>x.2.2.1)).countP (fun y=>decide (y=net))
 | [],m=>by simp [cat]
 | x::r,m=>by
  simp only [cat,List.length_append,Zmq net r,Zbw]
  obtain ⟨a,b,n,dr,u⟩:=x
  cases dr
  ·by_cases e:n=net
   ·simp [e,Nat.add_comm]
   ·simp [e]
  ·simp
end Go.Proofs.YtfndhpjedmopdaaGreatDoor
/-
  Plain laws: wires, blocks.
-/
namespace Go.Proofs.YtfndhpjedmopdaaGreatDoor
set_option linter.unusedVariables false
set_option linter.unusedSimpArgs false
open Go Go.Sx
theorem Zjs {w:Zn} (h:sm YP w):sm (.sl (.int .i64)) (Zn.Parent w)∧sm (.sl (.int .i64)) (Zn.Res w)∧sm (.sl (.int .i64)) (Zn.Cap w)∧sm (.sl (.int .i64)) (Zn.ZfM w):=by
 refine ⟨?_,?_,?_,?_⟩
 all_goals first | exact h.1 | exact h.2.1 | exact h.2.2.1 | exact h.2.2.2.1
theorem Za5 {b:Zb} (h:sm Yt b):sm Z6 (Zb.Library b)∧sm Z9 (Zb.Design b)∧sm (.sl YP) (Zb.Zy b):=by
 refine ⟨?_,?_,?_⟩
 all_goals first | exact h.1 | exact h.2.1 | exact h.2.2.1 | exact h.2.2.2.1
def Zmo (w:Zn) (k:Nat) (x:Int):Prop:=(k=0→x=-1∧(Zn.Res w)[0]?=some 0)∧(0<k→0≤x∧x≤(k:Int)-1)
def Zb9 (w:Zn) (s:Int):Prop :=
 (1≤(Zn.Parent w).length∧(Zn.Parent w).length≤8)∧(Zn.Res w).length=(Zn.Parent w).length∧(Zn.Cap w).length=(Zn.Parent w).length∧((Zn.ZfM w).length:Int)=s∧
 Zgm (Zn.Parent w) (Zmo w)∧Zg5 (Zn.Res w) 0 1000∧Zg5 (Zn.Cap w) 0 500∧Zg5 (Zn.ZfM w) 0 (((Zn.Parent w).length:Int)-1)
theorem Zhf (l:List Int) (lo hi:Int) (hl:l.length≤1048576):Xz l lo hi=some (tr (Zg5 l lo hi)):=by
 rw [Zcp l lo hi (by omega)]
 exact ZdR (Zjr _ _ _)
theorem Zjp (w:Zn) (hw:sm YP w) (h1:1≤(Zn.Parent w).length) (h2:(Zn.Res w).length=(Zn.Parent w).length):Zak w=some (tr (Zgm (Zn.Parent w) (Zmo w))):=by
 obtain ⟨a1,a2,a3,a4⟩:=Zjs hw
 have s1:=Zm a1
 unfold Zak
 have hr:(Zn.Res w)[0]?=some (Zn.Res w)[0]:=List.getElem?_eq_getElem (by omega)
 rw [ZaU (XJ a1) (Zmo w) (bad:=false) (good:=true)
  (fun k x hx hk _=>by
   simp only [Vq,show (k:Int)<((Zn.Parent w).length:Int) from by omega,if_true,Zr,hx,Option.bind_some]
   unfold Zmo
   by_cases hk0:k=0
   ·subst hk0
    rw [if_pos (by rfl),show atI (Zn.Res w) 0=some (Zn.Res w)[0] from hr,hr]
    simp only [Option.bind_some,Option.some.injEq]
    rw [if_neg (show ¬(0:Int)<((0:Nat):Int) by omega)]
    constructor
    ·intro hh
     obtain ⟨q1,q2⟩:=hh.1 trivial
     rw [if_pos q1,if_pos q2]
    ·intro hh
     by_cases q1:x=-1
     ·rw [if_pos q1,if_neg (fun q2=>hh ⟨fun _=>⟨q1,q2⟩,fun h=>by omega⟩)]
     ·rw [if_neg q1]
   ·rw [if_neg (by omega),if_pos (by omega),Zby,Option.bind_some,Jd (by omega) (by omega)]
    constructor
    ·intro hh;rw [if_pos (YS (hh.2 (by omega)))]
    ·intro hh;rw [if_neg (fun q=>hh ⟨fun h=>absurd h hk0,fun _=>(VE _).1 q⟩)])
  (fun _=>by simp only [Vq,Int.lt_irrefl,if_false]),ZmW]
theorem ZiL (w:Zn) (s:Int) (hw:sm YP w):Zde w s=some (tr (Zb9 w s)):=by
 obtain ⟨a1,a2,a3,a4⟩:=Zjs hw
 have s1:=Zm a1
 have s2:=Zm a2
 have s3:=Zm a3
 have s4:=Zm a4
 unfold Zde
 simp only [ZaT,Option.bind_some,Jd (show (-9223372036854775808:Int)≤((Zn.Parent w).length:Int)-1 by omega) (by omega)]
 refine Zaf (Xp (Zby _ _ _) (fun q1=>YG (fun q2=>YG (fun q3=>Xp (Zjp w hw (by omega) (by omega)) (fun q4=>Xp (Zhf _ _ _ s2) (fun q5=>Xp (Zhf _ _ _ s3) (fun q6=>YG (fun q7=>Zd5 (Zhf _ _ _ s4))))))))) ?_
 unfold Zb9
 constructor
 ·rintro ⟨q1,q2,q3,q4,q5,q6,q7,q8⟩
  exact ⟨⟨by omega,by omega⟩,by omega,by omega,q7,q4,q5,q6,q8⟩
 ·rintro ⟨q1,q2,q3,q7,q4,q5,q6,q8⟩
  exact ⟨by omega,by omega,by omega,q4,q5,q6,q7,q8⟩
theorem Zrn {l:List Int} {lo hi:Int}:Zg5 l lo hi↔∀ (k:Nat) (x:Int),l[k]?=some x→lo≤x∧x≤hi:=by
 unfold Zg5
 constructor
 ·intro h k x hx;exact h x (List.mem_of_getElem? hx)
 ·intro h x hx
  obtain ⟨k,hk⟩:=List.mem_iff_getElem?.1 hx
  exact h k x hk
theorem ZiO (w:Zn) (s:Int) (hw:sm YP w):ZcY w s=some (tr (Zb9 w s)):=by
 obtain ⟨a1,a2,a3,a4⟩:=Zjs hw
 have s1:=Zm a1
 have s2:=Zm a2
 have s3:=Zm a3
 have s4:=Zm a4
 have e1:IntKind.i64.wrap (((Zn.Parent w).length:Int)-1)=((Zn.Parent w).length:Int)-1:=Jd (by omega) (by omega)
 unfold ZcY
 refine Zaf (ZgK (fun q1=>ZgK (fun q2=>YG (fun q3=>YG (fun q4=>YG (fun q5=>?_)))))) ?_
  (P:=¬((Zn.Parent w).length:Int)<1∧¬(8:Int)<((Zn.Parent w).length:Int)∧((Zn.Res w).length:Int)=((Zn.Parent w).length:Int)∧((Zn.Cap w).length:Int)=((Zn.Parent w).length:Int)∧((Zn.ZfM w).length:Int)=s∧
   (Zgm (Zn.Parent w) (fun k x=>(∀ c,(Zn.Cap w)[k]?=some c→0≤c∧c≤500)∧(∀ r,(Zn.Res w)[k]?=some r→0≤r∧r≤1000)∧Zmo w k x)∧Zg5 (Zn.ZfM w) 0 (((Zn.Parent w).length:Int)-1)))
 ·rw [ZaU (XJ a1) (fun k x=>(∀ c,(Zn.Cap w)[k]?=some c→0≤c∧c≤500)∧(∀ r,(Zn.Res w)[k]?=some r→0≤r∧r≤1000)∧Zmo w k x) (bad:=false) (good:=tr (Zg5 (Zn.ZfM w) 0 (((Zn.Parent w).length:Int)-1)))
   (fun k x hx hk _=>by
    have hc:(Zn.Cap w)[k]?=some (Zn.Cap w)[k]:=List.getElem?_eq_getElem (by omega)
    have hr:(Zn.Res w)[k]?=some (Zn.Res w)[k]:=List.getElem?_eq_getElem (by omega)
    simp only [ZaX,show (k:Int)<((Zn.Parent w).length:Int) from by omega,if_true,Zr,hc,hr,hx,Option.bind_some,Zbs,Option.some.injEq,forall_eq']
    generalize (Zn.Cap w)[k]=c at hc
    generalize (Zn.Res w)[k]=r at hr
    by_cases qc:0≤c∧c≤500
    ·rw [if_pos (YS qc)]
     by_cases qr:0≤r∧r≤1000
     ·rw [if_pos (YS qr)]
      unfold Zmo
      by_cases hk0:k=0
      ·subst hk0
       rw [if_pos (by rfl),hr]
       simp only [Option.some.injEq]
       rw [if_neg (show ¬(0:Int)<((0:Nat):Int) by omega)]
       constructor
       ·rintro ⟨_,_,hh⟩
        obtain ⟨q1,q2⟩:=hh.1 trivial
        rw [if_pos q1,if_pos q2]
       ·intro hh
        by_cases q1:x=-1
        ·rw [if_pos q1,if_neg (fun q2=>hh ⟨qc,qr,fun _=>⟨q1,q2⟩,fun h=>by omega⟩)]
        ·rw [if_neg q1]
      ·rw [if_neg (by omega),if_pos (by omega),Jd (show (-9223372036854775808:Int)≤(k:Int)-1 by omega) (by omega)]
       constructor
       ·intro hh;rw [if_pos (YS (hh.2.2.2 (by omega)))]
       ·intro hh;rw [if_neg (fun q=>hh ⟨qc,qr,fun h=>absurd h hk0,fun _=>(VE _).1 q⟩)]
     ·rw [if_neg (fun q=>qr ((VE _).1 q))]
      exact ⟨fun hh=>absurd hh.2.1 qr,fun _=>rfl⟩
    ·rw [if_neg (fun q=>qc ((VE _).1 q))]
     exact ⟨fun hh=>absurd hh.1 qc,fun _=>rfl⟩)
   (fun _=>by
    simp only [ZaX,Int.lt_irrefl,if_false]
    rw [ZaU (XJ a4) (fun _ x=>0≤x∧x≤((Zn.Parent w).length:Int)-1) (bad:=.inr false) (good:=.inr true)
     (fun k x hx hk _=>by
      simp only [Zba,show (k:Int)<((Zn.ZfM w).length:Int) from by omega,if_true,Zr,hx,Option.bind_some,Zbs,e1]
      constructor
      ·intro hh;rw [if_pos (YS hh)]
      ·intro hh;rw [if_neg (fun q=>hh ((VE _).1 q))])
     (fun _=>by simp only [Zba,Int.lt_irrefl,if_false])]
    congr 1
    have e:Zgm (Zn.ZfM w) (fun _ x=>0≤x∧x≤((Zn.Parent w).length:Int)-1)↔Zg5 (Zn.ZfM w) 0 (((Zn.Parent w).length:Int)-1):=ZeT
    by_cases hh:Zg5 (Zn.ZfM w) 0 (((Zn.Parent w).length:Int)-1)
    ·rw [VP (e.2 hh),YS hh]
    ·rw [QF (fun q=>hh (e.1 q)),Yr hh]),ZjA]
 ·unfold Zb9
  rw [Zrn (l:=Zn.Res w),Zrn (l:=Zn.Cap w)]
  constructor
  ·rintro ⟨q1,q2,q3,q4,q5,q6,q7⟩
   refine ⟨⟨by omega,by omega⟩,by omega,by omega,q5,fun k x hx=>(q6 k x hx).2.2,fun k r hr=>?_,fun k c hc=>?_,q7⟩
   ·have hk:=(List.getElem?_eq_some_iff.1 hr).1
    exact (q6 k _ (List.getElem?_eq_getElem (by omega))).2.1 r hr
   ·have hk:=(List.getElem?_eq_some_iff.1 hc).1
    exact (q6 k _ (List.getElem?_eq_getElem (by omega))).1 c hc
  ·rintro ⟨q1,q2,q3,q5,q6,q7,q8,q9⟩
   exact ⟨by omega,by omega,by omega,by omega,q5,fun k x hx=>⟨fun c hc=>q8 k c hc,fun r hr=>q7 k r hr,q6 k x hx⟩,q9⟩
def ZkK (b:Zb):Prop :=
 Vl (Zb.Library b) (Zb.Design b)∧(Zb.Zy b).length=(Za.ZP (Zb.Design b)).length∧Zgm (Zb.Zy b) (fun k w=>Zb9 w ((sinks (Zb.Design b) (k:Int)).length:Int))
theorem Za1 {a:Zl} {d:Za} (h:Vl a d) {x:Pl} (hx:x∈places d):ZbW d x.2.2.1:=by
 unfold places at hx
 rcases List.mem_append.1 hx with hx | hx
 ·obtain ⟨i,z,hi,hz⟩:=ZhY.1 hx
  unfold QH at hz
  obtain ⟨j,n,hj,hn⟩:=ZhY.1 hz
  simp only [List.mem_singleton] at hn
  subst hn
  exact (h.2.2.1 z (List.mem_of_getElem? hi)).2.2 n (List.mem_of_getElem? hj)
 ·obtain ⟨j,p,hj,hp⟩:=ZhY.1 hx
  simp only [Ze0,List.mem_singleton] at hp
  subst hp
  exact (h.2.2.2.1 p (List.mem_of_getElem? hj)).2
theorem Zg7 (b:Zb) (hb:sm Yt b):Zca b=some (tr (ZkK b)):=by
 obtain ⟨a1,a2,a3⟩:=Za5 hb
 have s3:=Zm a3
 unfold Zca
 refine Zaf (Xp (ZlC _ _ a1 a2) (fun hD=>YG (fun q1=>?_))) ?_
  (P:=Vl (Zb.Library b) (Zb.Design b)∧((Zb.Zy b).length:Int)=((Za.ZP (Zb.Design b)).length:Int)∧Zgm (Zb.Zy b) (fun k w=>Zb9 w ((sinks (Zb.Design b) (k:Int)).length:Int)))
 ·rw [ZaU (XJ a3) (fun k w=>Zb9 w ((sinks (Zb.Design b) (k:Int)).length:Int)) (bad:=false) (good:=true)
   (fun k w hx hk _=>by
    simp only [ZaB,show (k:Int)<((Zb.Zy b).length:Int) from by omega,if_true,Zr,hx,Option.bind_some,Zar _ _ hD.few,ZiO w _ (Zag a3 hx)]
    constructor
    ·intro hh;rw [if_pos (YS hh)]
    ·intro hh;rw [if_neg (fun q=>hh ((VE _).1 q))])
   (fun _=>by simp only [ZaB,Int.lt_irrefl,if_false]),ZmW]
 ·unfold ZkK
  rw [show ((Zb.Zy b).length:Int)=((Za.ZP (Zb.Design b)).length:Int)↔(Zb.Zy b).length=(Za.ZP (Zb.Design b)).length from by omega]
theorem Zr9 {l:List Pl} {k:Nat} {x:Pl} (hx:l[k]?=some x) :
  (((l.take (k+1)).filter (fun x=>!x.2.2.2.1)).map (fun x=>x.2.2.1))=if x.2.2.2.1=true then (((l.take k).filter (fun x=>!x.2.2.2.1)).map (fun x=>x.2.2.1)) else (((l.take k).filter (fun x=>!x.2.2.2.1)).map (fun x=>x.2.2.1))++[x.2.2.1]:=by
 rw [YD hx,List.filter_append,List.map_append]
 by_cases h:x.2.2.2.1=true
 ·rw [if_pos h];simp [h]
 ·rw [if_neg h];simp [h]
theorem Zm9 (b:Zb) (hb:sm Yt b):ZdD b=some (tr (ZkK b)):=by
 obtain ⟨a1,a2,a3⟩:=Za5 hb
 have s3:=Zm a3
 unfold ZdD
 refine Zaf (Xp (ZlD _ _ a1 a2) (fun hD=>YG (fun q1=>?_))) ?_
  (P:=Vl (Zb.Library b) (Zb.Design b)∧((Zb.Zy b).length:Int)=((Za.ZP (Zb.Design b)).length:Int)∧Zgm (Zb.Zy b) (fun k w=>Zb9 w ((sinks (Zb.Design b) (k:Int)).length:Int)))
 ·rw [Zi (by omega),Zi (by omega),Zi (by omega),Zi (by omega),Yn _ hD.few,Option.bind_some]
  have hpl:=Qz hD.few
  have:=YH (l:=places (Zb.Design b)) (ρ:=Bool) (fun k=>((k:Int),ZlT (Zb.Zy b).length ((((places (Zb.Design b)).take k).filter (fun x=>!x.2.2.2.1)).map (fun x=>x.2.2.1)),())) (step:=fun v=>V4 b (places (Zb.Design b)) v.1 v.2.1) (good:=tr (Zgm (Zb.Zy b) (fun k w=>Zb9 w ((sinks (Zb.Design b) (k:Int)).length:Int))))
   (fun k x hx hk=>by
    have hn:=Za1 hD (List.mem_of_getElem? hx)
    have hl1:=List.length_filter_le (fun x:Pl=>!x.2.2.2.1) ((places (Zb.Design b)).take k)
    rw [List.length_take] at hl1
    simp only [V4,show (k:Int)<((places (Zb.Design b)).length:Int) from by omega,if_true,Zr,hx,Option.bind_some,Zr9 hx]
    by_cases hd:x.2.2.2.1=true
    ·rw [if_pos hd,if_pos hd,Zah (by omega)]
    ·rw [if_neg hd,if_neg hd,Zhh hn.1 (by have:=hn.2;show x.2.2.1<_;omega) (by rw [List.length_map];omega) (F:=fun o=>some (Sum.inl (IntKind.i64.wrap ((k:Int)+1),o,()))),Zah (by omega)])
   (by
    simp only [V4,Int.lt_irrefl,if_false,List.take_length]
    rw [ZaU (XJ a3) (fun k w=>Zb9 w ((sinks (Zb.Design b) (k:Int)).length:Int)) (bad:=.inr false) (good:=.inr true)
     (fun k w hx hk _=>by
      have hc:(sinks (Zb.Design b) (k:Int)).length=_:=Zmq (k:Int) (places (Zb.Design b)) 0
      simp only [Zaz,show (k:Int)<((Zb.Zy b).length:Int) from by omega,if_true,Zr,hx,Option.bind_some]
      rw [Zia hk,Option.bind_some,ZiL w _ (Zag a3 hx),Option.bind_some,hc]
      constructor
      ·intro hh;rw [if_pos (YS hh)]
      ·intro hh;rw [if_neg (fun q=>hh ((VE _).1 q))])
     (fun _=>by simp only [Zaz,Int.lt_irrefl,if_false])]
    congr 1
    by_cases hh:Zgm (Zb.Zy b) (fun k w=>Zb9 w ((sinks (Zb.Design b) (k:Int)).length:Int))
    ·rw [VP hh,YS hh]
    ·rw [QF hh,Yr hh])
  rw [List.take_zero,List.filter_nil,List.map_nil,ZoG] at this
  exact this
 ·unfold ZkK
  rw [show ((Zb.Zy b).length:Int)=((Za.ZP (Zb.Design b)).length:Int)↔(Zb.Zy b).length=(Za.ZP (Zb.Design b)).length from by omega]
structure ZaW (b:Zb):Prop where
 ok:ZkK b
 sm:sm Yt b
end Go.Proofs.YtfndhpjedmopdaaGreatDoor
