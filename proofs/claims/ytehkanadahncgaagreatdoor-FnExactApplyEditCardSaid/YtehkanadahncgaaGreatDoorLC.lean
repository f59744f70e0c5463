/-
  Plain laws: designs.
-/
import Derived.Test.YtehkanadahncgaaGreatDoorLB
namespace Go.Proofs.YtehkanadahncgaaGreatDoor
set_option linter.unusedVariables false
set_option linter.unusedSimpArgs false
open Go Go.Sx
theorem Zcj {d:Za} (h:sm Z8 d):sm (.sl Zv) (Za.Instances d)∧sm (.sl Xk) (Za.Z5 d)∧sm (.sl .str) (Za.ZQ d):=by
 refine ⟨?_,?_,?_⟩
 ·first | exact h.1 | exact h.2.1 | exact h.2.2.1 | exact h.2.2.2.1
 ·first | exact h.1 | exact h.2.1 | exact h.2.2.1 | exact h.2.2.2.1
 ·first | exact h.1 | exact h.2.1 | exact h.2.2.1 | exact h.2.2.2.1
theorem ZjL {x:Zd} (h:sm Zv x):sm .str (Zd.Name x)∧sm (.sl (.int .i64)) (Zd.ZQ x):=by
 refine ⟨?_,?_⟩
 ·first | exact h.1 | exact h.2.1 | exact h.2.2.1 | exact h.2.2.2.1
 ·first | exact h.1 | exact h.2.1 | exact h.2.2.1 | exact h.2.2.2.1
theorem ZuB {x:ZU} (h:sm Xk x):sm .str (ZU.Name x):=by
 first | exact h.1 | exact h.2.1 | exact h.2.2.1 | exact h.2.2.2.1
theorem Zga (d:Za) (h:sm Z8 d):QT d=some (tr (Zje d)):=by
 obtain ⟨h1,h2,h3⟩:=Zcj h
 have s1:=Zm h1
 have s2:=Zm h2
 have s3:=Zm h3
 unfold QT
 refine gather (l:=Za.Instances d) s1 Zd.Name (fun k x o hx hk ho=>?_) ?_
 ·simp only [XE,hk,if_true,Zu,hx,Option.bind_some]
 simp only [XE,Int.lt_irrefl,if_false]
 have hi:(ZaY d).length=(Za.Instances d).length:=by simp [ZaY]
 have hp:(ZcB d).length=(Za.Z5 d).length:=by simp [ZcB]
 refine gather (l:=Za.Z5 d) s2 ZU.Name (fun k x o hx hk ho=>?_) ?_
 ·simp only [XD,hk,if_true,Zu,hx,Option.bind_some]
 simp only [XD,Int.lt_irrefl,if_false]
 rw [show List.map ZU.Name (Za.Z5 d)=ZcB d from rfl,show List.map Zd.Name (Za.Instances d)=ZaY d from rfl]
 simp only [hi,hp,Zbb _ (show (ZaY d).length≤4611686018427387904 by omega),Zbb _ (show (ZcB d).length≤4611686018427387904 by omega),Zbb _ (show (Za.ZQ d).length≤4611686018427387904 by omega),Option.bind_some]
 unfold Zje
 rw [hi,hp]
 by_cases a:(Za.Instances d).length≤14
 ·rw [if_pos (by omega)]
  by_cases b:(Za.ZQ d).length≤30
  ·rw [if_pos (by omega)]
   by_cases c:(Za.Z5 d).length≤8
   ·rw [if_pos (by omega)]
    by_cases e:VU (ZaY d) (Za.Instances d).length
    ·rw [if_pos (YR e)]
     by_cases f:VU (Za.ZQ d) (Za.ZQ d).length
     ·rw [if_pos (YR f)]
      congr 3
      exact Jd ⟨fun q=>⟨a,b,c,e,f,q⟩,fun q=>q.2.2.2.2.2⟩
     ·rw [if_neg (by rw [Yp f];simp),Yp (fun q=>f q.2.2.2.2.1)]
    ·rw [if_neg (by rw [Yp e];simp),Yp (fun q=>e q.2.2.2.1)]
   ·rw [if_neg (by omega),Yp (fun q=>c q.2.2.1)]
  ·rw [if_neg (by omega),Yp (fun q=>b q.2.1)]
 ·rw [if_neg (by omega),Yp (fun q=>a q.1)]
def ZkW (n:Nat) (s:List Int):List Int:=(List.range n).map (fun (j:Nat)=>((s.countP (fun x=>decide (x=(j:Int))):Nat):Int))
theorem Zgf (n:Nat) (s:List Int):(ZkW n s).length=n:=by simp [ZkW]
theorem ZnR (n:Nat):ZkW n []=List.replicate n 0:=by
 apply List.ext_getElem?
 intro i
 simp only [ZkW,List.countP_nil,List.getElem?_map,List.getElem?_replicate,List.getElem?_range]
 by_cases h:i<n
 ·simp [h]
 ·simp [h]
theorem Zhk {n:Nat} {s:List Int} {j:Nat} (h:j<n):(ZkW n s)[j]?=some ((s.countP (fun x=>decide (x=(j:Int))):Nat):Int):=by
 simp [ZkW,h]
theorem Zu0 {n:Nat} {s:List Int} {x:Int} (h0:0≤x) (h1:x<(n:Int)):atI (ZkW n s) x=some ((s.countP (fun y=>decide (y=x)):Nat):Int):=by
 refine VJ h0 ?_
 rw [Zhk (by omega),show ((x.toNat:Nat):Int)=x by omega]
theorem Zuq {n:Nat} {s:List Int} {x:Int} (h0:0≤x) (h1:x<(n:Int)):List.set (ZkW n s) (Int.toNat x) (((s.countP (fun y=>decide (y=x)):Nat):Int)+1)=ZkW n (s++[x]):=by
 apply List.ext_getElem?
 intro i
 rw [List.getElem?_set]
 by_cases hi:i<n
 ·rw [Zhk hi,Zhk hi,List.countP_append,Zgf]
  by_cases e:x.toNat=i
  ·subst e
   rw [if_pos rfl,if_pos (by omega),show ((x.toNat:Nat):Int)=x by omega]
   simp
  ·rw [if_neg e]
   have:¬x=(i:Int):=by omega
   simp [List.countP_cons,this]
 ·have h1:(ZkW n s)[i]?=none:=by rw [List.getElem?_eq_none];rw [Zgf];omega
  have h2:(ZkW n (s++[x]))[i]?=none:=by rw [List.getElem?_eq_none];rw [Zgf];omega
  rw [h1,h2]
  split
  ·split
   ·rename_i h3;rw [Zgf] at h3;omega
   ·rfl
  ·rfl
theorem ZgM {n:Nat} {s:List Int} {x:Int} (h0:0≤x) (h1:x<(n:Int)) (hs:s.length≤1048576000) {τ:Type} (F:List Int→Option τ) :
  ((atI (ZkW n s) x).bind fun y=>F (List.set (ZkW n s) (Int.toNat x) (IntKind.i64.wrap (y+1))))=F (ZkW n (s++[x])):=by
 have h2:=List.countP_le_length (p:=fun y=>decide (y=x)) (l:=s)
 rw [Zu0 h0 h1,Option.bind_some,V8 (by omega) (by omega),Zuq h0 h1]
def XZ (x:Zd):Int:=(Zd.ZQ x).getLastD 0
def ZbA (d:Za) (n:Int):Prop:=0≤n∧n≤((Za.ZQ d).length:Int)-1
def ZhZ (a:Zl) (d:Za) (x:Zd):Prop :=
 (0≤Zd.Cell x∧Zd.Cell x≤((Zl.Cells a).length:Int)-1)∧(∃ c,(Zl.Cells a)[(Zd.Cell x).toNat]?=some c∧(Zd.ZQ x).length=(Zh.Yy c).length)∧∀ n∈Zd.ZQ x,ZbA d n
def Zh7 (d:Za) (p:ZU):Prop:=(1≤ZU.Dir p∧ZU.Dir p≤2)∧ZbA d (ZU.Net p)
def ZlR (d:Za):List Int:=(Za.Instances d).map XZ++((Za.Z5 d).filter (fun p=>decide (ZU.Dir p=1))).map ZU.Net
def Zf1 (d:Za):Prop:=∀ x∈ZkW (Za.ZQ d).length (ZlR d),x=1
def Q6 (a:Zl) (d:Za):Prop:=ZpB a∧Zje d∧(∀ x∈Za.Instances d,ZhZ a d x)∧(∀ p∈Za.Z5 d,Zh7 d p)∧Zf1 d
theorem ZhZ.last {a:Zl} {d:Za} {x:Zd} (h:ZhZ a d x) (hl:ZpB a) (hsm:(Zd.ZQ x).length≤1048576):atI (Zd.ZQ x) (IntKind.i64.wrap (((Zd.ZQ x).length:Int)-1))=some (XZ x)∧ZbA d (XZ x):=by
 obtain ⟨_,⟨c,hc,hn⟩,hall⟩:=h
 have h2:2≤(Zh.Yy c).length:=(hl.2.1 c (List.mem_of_getElem? hc)).2.1.1
 unfold XZ
 cases hN:Zd.ZQ x with
 | nil=>rw [hN] at hn;simp at hn;omega
 | cons y r =>
  rw [hN] at hsm
  rw [ZuE hsm (by simp),Zu]
  have e:(y::r)[(y::r).length-1]?=some ((y::r).getLastD 0):=by
   rw [←List.getLast?_eq_getElem?,List.getLastD_eq_getLast?,List.getLast?_cons];rfl
  exact ⟨e,hall _ (by rw [hN];exact List.mem_of_getElem? e)⟩
theorem ZcC (d:Za) (n:Int) (h:sm Z8 d):YD d n=some (tr (ZbA d n)):=by
 have s3:=Zm (Zcj h).2.2
 unfold YD
 rw [show YQ (Za.ZQ d)=some ((Za.ZQ d).length:Int) from rfl,Option.bind_some,V8 (by omega) (by omega)]
 exact Zdn (Zbd _ _ _)
theorem ZfJ (d:Za) (a:Zl) (x:Zd) (hd:sm Z8 d) (ha:sm Z0 a) (hx:sm Zv x):XQ d a x=some (tr (ZhZ a d x)):=by
 have sa:=Zm (Zm6 ha)
 unfold XQ
 rw [show Y2 (Zl.Cells a)=some ((Zl.Cells a).length:Int) from rfl,Option.bind_some,V8 (by omega) (by omega)]
 refine J2 (P:=(0≤Zd.Cell x∧Zd.Cell x≤((Zl.Cells a).length:Int)-1)∧ZhZ a d x) (Xl (Zbd _ _ _) (fun hw=>?_)) ⟨fun q=>q.2,fun q=>⟨q.1,q⟩⟩
 obtain ⟨c,hc1,hc2⟩:=ZrZ hw.1 (show Zd.Cell x<((Zl.Cells a).length:Int) by omega)
 rw [hc1,Option.bind_some]
 refine J2 (P:=((Zd.ZQ x).length:Int)=((Zh.Yy c).length:Int)∧∀ n∈Zd.ZQ x,ZbA d n) (YE (fun he=>?_)) ?_
 ·rw [Qx (XF (ZjL hx).2) (fun n=>!tr (ZbA d n)) (fun n _=>by
   unfold YT
   show (YD d n).bind _=_
   rw [ZcC d n hd];rfl),Option.bind_some]
  refine ZdB ?_
  rw [Bool.not_eq_true',List.any_eq_false]
  constructor
  ·intro q n hn
   have:=q n hn
   simp only [Bool.not_eq_true',Bool.not_eq_false] at this
   exact (Vp _).1 this
  ·intro q n hn
   simp only [Bool.not_eq_true',Bool.not_eq_false]
   exact YR (q n hn)
 ·constructor
  ·rintro ⟨q1,q2⟩;exact ⟨hw,⟨c,hc2,by omega⟩,q2⟩
  ·rintro ⟨_,⟨c',q1,q2⟩,q3⟩
   rw [hc2] at q1;injection q1 with q1;subst q1
   exact ⟨by omega,q3⟩
theorem ZqS {d:Za} {k:Nat} {p:ZU} (hx:(Za.Z5 d)[k]?=some p) (s:List Int) :
  s++(((Za.Z5 d).take (k+1)).filter (fun p=>decide (ZU.Dir p=1))).map ZU.Net=(if ZU.Dir p=1 then (s++(((Za.Z5 d).take k).filter (fun p=>decide (ZU.Dir p=1))).map ZU.Net)++[ZU.Net p] else s++(((Za.Z5 d).take k).filter (fun p=>decide (ZU.Dir p=1))).map ZU.Net):=by
 rw [Yz hx,List.filter_append,List.map_append]
 by_cases h:ZU.Dir p=1
 ·rw [if_pos h];simp [h]
 ·rw [if_neg h];simp [h]
theorem ZsZ {d:Za} (k m:Nat):(((Za.Instances d).take m).map XZ++(((Za.Z5 d).take k).filter (fun p=>decide (ZU.Dir p=1))).map ZU.Net).length≤(Za.Instances d).length+(Za.Z5 d).length:=by
 have h:=List.length_filter_le (fun p=>decide (ZU.Dir p=1)) ((Za.Z5 d).take k)
 simp only [List.length_append,List.length_map,List.length_take] at h ⊢
 omega
theorem Zla (a:Zl) (d:Za) (ha:sm Z0 a) (hd:sm Z8 d):Zcy a d=some (tr (Q6 a d)):=by
 obtain ⟨h1,h2,h3⟩:=Zcj hd
 have s1:=Zm h1
 have s2:=Zm h2
 have s3:=Zm h3
 unfold Zcy
 refine J2 (P:=ZpB a∧Zje d∧(ZfZ (Za.Instances d) (fun _ x=>ZhZ a d x)∧(ZfZ (Za.Z5 d) (fun _ p=>Zh7 d p)∧Zf1 d))) (Xl (Zkx a ha) (fun hL=>Xl (Zga d hd) (fun hN=>?_))) (by rw [Zez,Zez];exact Iff.rfl)
 rw [Zi (by omega),Zi (by omega),Zi (by omega),Zi (by omega)]
 have:=Zhg (l:=Za.Instances d) (ρ:=Bool) (fun k=>((k:Int),ZkW (Za.ZQ d).length (((Za.Instances d).take k).map XZ),())) (fun _ x=>ZhZ a d x) (step:=fun v=>Vl a d v.1 v.2.1) (bad:=false) (good:=tr (ZfZ (Za.Z5 d) (fun _ p=>Zh7 d p)∧Zf1 d))
  (fun k x hx hk _=>by
   have hsx:=ZaR h1 hx
   simp only [Vl,show (k:Int)<((Za.Instances d).length:Int) from by omega,if_true,Zu,hx,Option.bind_some,ZfJ d a x hd ha hsx]
   constructor
   ·intro hh
    obtain ⟨e1,e2⟩:=hh.last hL (Zm (ZjL hsx).2)
    rw [if_pos (YR hh),e1,Option.bind_some,ZgM e2.1 (by have:=e2.2;omega) (by simp only [List.length_map,List.length_take];omega) (F:=fun o=>some (Sum.inl (IntKind.i64.wrap ((k:Int)+1),o,()))),Yz hx,List.map_append,Zax (by omega)]
    rfl
   ·intro hh;rw [if_neg (by rw [Yp hh];simp)])
  (fun hA=>by
   simp only [Vl,Int.lt_irrefl,if_false,List.take_length]
   have:=Zhg (l:=Za.Z5 d) (ρ:=Int×List Int×Unit ⊕ Bool) (fun k=>((k:Int),ZkW (Za.ZQ d).length ((Za.Instances d).map XZ++(((Za.Z5 d).take k).filter (fun p=>decide (ZU.Dir p=1))).map ZU.Net),())) (fun _ p=>Zh7 d p) (step:=fun v=>Qe d v.1 v.2.1) (bad:=.inr false) (good:=.inr (tr (Zf1 d)))
    (fun k p hx hk _=>by
     have hl:=ZsZ (d:=d) k (Za.Instances d).length
     rw [List.take_length] at hl
     simp only [Qe,show (k:Int)<((Za.Z5 d).length:Int) from by omega,if_true,Zu,hx,Option.bind_some,ZcC d _ hd,ZqS hx]
     by_cases d1:ZU.Dir p=1
     ·simp only [d1,if_true]
      constructor
      ·intro hh
       rw [if_pos (YR hh.2),ZgM hh.2.1 (by have:=hh.2.2;omega) (by omega) (F:=fun o=>some (Sum.inl (IntKind.i64.wrap ((k:Int)+1),o,()))),Zax (by omega)]
      ·intro hh
       rw [if_neg (by rw [Yp (fun q=>hh ⟨by omega,q⟩)];simp)]
     ·simp only [d1,if_false]
      by_cases d2:ZU.Dir p=2
      ·simp only [d2,if_true]
       constructor
       ·intro hh
        rw [if_pos (YR hh.2),Zax (by omega)]
       ·intro hh
        rw [if_neg (by rw [Yp (fun q=>hh ⟨by omega,q⟩)];simp)]
      ·simp only [d2,if_false]
       exact ⟨fun hh=>by have:=hh.1;omega,fun _=>trivial⟩)
    (fun _=>by
     simp only [Qe,Int.lt_irrefl,if_false,List.take_length]
     rw [JF (show Len _ by show List.length _≤_;rw [Zgf];omega) (fun n=>!decide (n=1)) (fun n _=>rfl),Option.bind_some]
     congr 3
     refine (Zol ?_).symm
     rw [Bool.not_eq_true',List.any_eq_false]
     simp only [Bool.not_eq_true',Bool.not_eq_false,decide_eq_true_eq,decide_eq_false_iff_not,Classical.not_not]
     exact Iff.rfl)
   refine (show Zw (fun v=>Qe d v.1 v.2.1) ((0:Int),ZkW (Za.ZQ d).length ((Za.Instances d).map XZ),())=_ from (by simpa using this)).trans ?_
   by_cases hP:ZfZ (Za.Z5 d) (fun _ p=>Zh7 d p)
   ·rw [VB hP];congr 2;exact Jd ⟨fun q=>⟨hP,q⟩,fun q=>q.2⟩
   ·rw [Qu hP,Yp (fun q=>hP q.1)])
 rw [Zi8] at this
 refine Eq.trans ?_ this
 rw [List.take_zero,List.map_nil,ZnR]
 rfl
end Go.Proofs.YtehkanadahncgaaGreatDoor
/-
  Plain laws: designs by the reference; places.
-/
namespace Go.Proofs.YtehkanadahncgaaGreatDoor
set_option linter.unusedVariables false
set_option linter.unusedSimpArgs false
open Go Go.Sx
theorem Zk7 (a:Zl) (d:Za) (ha:sm Z0 a) (hd:sm Z8 d):Zcm a d=some (tr (ZfZ (Za.Instances d) (fun _ x=>ZhZ a d x)∧ZfZ (Za.Z5 d) (fun _ p=>Zh7 d p))):=by
 obtain ⟨h1,h2,h3⟩:=Zcj hd
 have s1:=Zm h1
 have s2:=Zm h2
 have s3:=Zm h3
 have sa:=Zm (Zm6 ha)
 have e1:IntKind.i64.wrap (((Za.ZQ d).length:Int)-1)=((Za.ZQ d).length:Int)-1:=V8 (by omega) (by omega)
 have e2:IntKind.i64.wrap (((Zl.Cells a).length:Int)-1)=((Zl.Cells a).length:Int)-1:=V8 (by omega) (by omega)
 unfold Zcm
 rw [ZaP (XF h1) (fun _ x=>ZhZ a d x) (bad:=false) (good:=tr (ZfZ (Za.Z5 d) (fun _ p=>Zh7 d p)))
  (fun k x hx hk _=>by
   have hsx:=ZaR h1 hx
   simp only [JH,show (k:Int)<((Za.Instances d).length:Int) from by omega,if_true,Zu,hx,Option.bind_some,Za8,e2]
   by_cases hc:0≤Zd.Cell x∧Zd.Cell x≤((Zl.Cells a).length:Int)-1
   ·obtain ⟨c,hc1,hc2⟩:=ZrZ hc.1 (show Zd.Cell x<((Zl.Cells a).length:Int) by omega)
    rw [if_pos (YR hc),hc1,Option.bind_some]
    by_cases hp:((Zd.ZQ x).length:Int)=((Zh.Yy c).length:Int)
    ·rw [if_pos hp,ZaP (XF (ZjL hsx).2) (fun _ n=>ZbA d n) (bad:=.inr false) (good:=.inl (IntKind.i64.wrap ((k:Int)+1),()))
      (fun j n hn hj _=>by
       simp only [JB,show (j:Int)<((Zd.ZQ x).length:Int) from by omega,if_true,Zu,hn,Option.bind_some,Za8,e1]
       constructor
       ·intro hh;exact if_pos (YR hh)
       ·intro hh;exact if_neg (fun q=>hh ((Vp _).1 q)))
      (fun _=>by simp only [JB,Int.lt_irrefl,if_false])]
     constructor
     ·intro hh;rw [VB (Zez.2 hh.2.2)]
     ·intro hh;rw [Qu (fun q=>hh ⟨hc,⟨c,hc2,by omega⟩,Zez.1 q⟩)]
    ·rw [if_neg hp]
     refine ⟨fun hh=>?_,fun _=>rfl⟩
     obtain ⟨_,⟨c',q1,q2⟩,_⟩:=hh
     rw [hc2] at q1;injection q1 with q1;subst q1
     exact absurd (by omega) hp
   ·rw [if_neg (by rw [Yp hc];simp)]
    exact ⟨fun hh=>absurd hh.1 hc,fun _=>rfl⟩)
  (fun _=>by
   simp only [JH,Int.lt_irrefl,if_false]
   rw [ZaP (XF h2) (fun _ p=>Zh7 d p) (bad:=.inr false) (good:=.inr true)
    (fun k p hx hk _=>by
     simp only [JO,show (k:Int)<((Za.Z5 d).length:Int) from by omega,if_true,Zu,hx,Option.bind_some,Za8,e1]
     by_cases hc:1≤ZU.Dir p∧ZU.Dir p≤2
     ·rw [if_pos (YR hc)]
      constructor
      ·intro hh;exact if_pos (YR hh.2)
      ·intro hh;exact if_neg (fun q=>hh ⟨hc,(Vp _).1 q⟩)
     ·rw [if_neg (by rw [Yp hc];simp)]
      exact ⟨fun hh=>absurd hh.1 hc,fun _=>rfl⟩)
    (fun _=>by simp only [JO,Int.lt_irrefl,if_false])]
   congr 1
   by_cases hh:ZfZ (Za.Z5 d) (fun _ p=>Zh7 d p)
   ·rw [VB hh,YR hh]
   ·rw [Qu hh,Yp hh])]
 rw [Zi8]
theorem ZqW {α:Type} {l:List α} {f:α→List UInt8} (h:∀ x∈l,(f x).length≤4611686018427387904):∀ s∈l.map f,s.length≤4611686018427387904:=by
 intro s hs
 obtain ⟨x,hx,rfl⟩:=List.mem_map.1 hs
 exact h x hx
theorem Zlt (a:Zl) (d:Za) (ha:sm Z0 a) (hd:sm Z8 d):Zcp a d=some (tr (Q6 a d)):=by
 obtain ⟨h1,h2,h3⟩:=Zcj hd
 have s1:=Zm h1
 have s2:=Zm h2
 have s3:=Zm h3
 unfold Zcp
 refine J2 (Xl (Zkc a ha) (fun hL=>Zgv (fun a1=>Zgv (fun a2=>Zgv (fun a3=>Xl (Zk7 a d ha hd) (fun hP=>?_))))))
  (P:=ZpB a∧¬(14:Int)<((Za.Instances d).length:Int)∧¬(30:Int)<((Za.ZQ d).length:Int)∧¬(8:Int)<((Za.Z5 d).length:Int)∧(ZfZ (Za.Instances d) (fun _ x=>ZhZ a d x)∧ZfZ (Za.Z5 d) (fun _ p=>Zh7 d p))∧(VU (ZaY d) (ZaY d).length∧VU (ZcB d) (ZcB d).length∧VU (Za.ZQ d) (Za.ZQ d).length)∧Zf1 d) ?_
 ·have hi:(ZaY d).length=(Za.Instances d).length:=by simp [ZaY]
  have hp:(ZcB d).length=(Za.Z5 d).length:=by simp [ZcB]
  refine gather (l:=Za.Instances d) s1 Zd.Name (fun k x o hx hk ho=>?_) ?_
  ·simp only [JL,hk,if_true,Zu,hx,Option.bind_some]
  simp only [JL,Int.lt_irrefl,if_false]
  refine gather (l:=Za.Z5 d) s2 ZU.Name (fun k x o hx hk ho=>?_) ?_
  ·simp only [JU,hk,if_true,Zu,hx,Option.bind_some]
  simp only [JU,Int.lt_irrefl,if_false]
  rw [show List.map ZU.Name (Za.Z5 d)=ZcB d from rfl,show List.map Zd.Name (Za.Instances d)=ZaY d from rfl]
  simp only [ZeL (ZaY d) (by omega) (ZqW (fun x hx=>Zg3 (ZjL (ZqE h1 hx)).1)),ZeL (ZcB d) (by omega) (ZqW (fun x hx=>Zg3 (ZuB (ZqE h2 hx)))),ZeL (Za.ZQ d) (by omega) (fun s hs=>Zg3 (ZqE h3 hs)),Option.bind_some]
  by_cases n1:VU (ZaY d) (ZaY d).length
  ·rw [if_pos (YR n1)]
   by_cases n2:VU (ZcB d) (ZcB d).length
   ·rw [if_pos (YR n2)]
    by_cases n3:VU (Za.ZQ d) (Za.ZQ d).length
    ·rw [if_pos (YR n3),Zi (by omega),Zi (by omega),Zi (by omega),Zi (by omega)]
     have:=YF (l:=Za.Instances d) (ρ:=(List (List UInt8))×Int×Unit ⊕ ((List (List UInt8))×Int×Unit ⊕ Bool)) (fun k=>((k:Int),ZkW (Za.ZQ d).length (((Za.Instances d).take k).map XZ),())) (step:=fun v=>Qa d v.1 v.2.1) (good:=.inr (.inr (tr (Zf1 d))))
      (fun k x hx hk=>by
       have hsx:=ZaR h1 hx
       obtain ⟨e1,e2⟩:=(hP.1 k x hx).last hL (Zm (ZjL hsx).2)
       simp only [Qa,show (k:Int)<((Za.Instances d).length:Int) from by omega,if_true,Zu,hx,Option.bind_some]
       rw [e1,Option.bind_some,ZgM e2.1 (by have:=e2.2;omega) (by simp only [List.length_map,List.length_take];omega) (F:=fun o=>some (Sum.inl (IntKind.i64.wrap ((k:Int)+1),o,()))),Yz hx,List.map_append,Zax (by omega)]
       rfl)
      (by
       simp only [Qa,Int.lt_irrefl,if_false,List.take_length]
       have:=YF (l:=Za.Z5 d) (ρ:=Int×List Int×Unit ⊕ ((List (List UInt8))×Int×Unit ⊕ ((List (List UInt8))×Int×Unit ⊕ Bool))) (fun k=>((k:Int),ZkW (Za.ZQ d).length ((Za.Instances d).map XZ++(((Za.Z5 d).take k).filter (fun p=>decide (ZU.Dir p=1))).map ZU.Net),())) (step:=fun v=>Qc d v.1 v.2.1) (good:=.inr (.inr (.inr (tr (Zf1 d)))))
        (fun k p hx hk=>by
         have hl:=ZsZ (d:=d) k (Za.Instances d).length
         rw [List.take_length] at hl
         have hpo:=hP.2 k p hx
         simp only [Qc,show (k:Int)<((Za.Z5 d).length:Int) from by omega,if_true,Zu,hx,Option.bind_some,ZqS hx]
         by_cases d1:ZU.Dir p=1
         ·simp only [d1,if_true]
          rw [ZgM hpo.2.1 (by have:=hpo.2.2;omega) (by omega) (F:=fun o=>some (Sum.inl (IntKind.i64.wrap ((k:Int)+1),o,()))),Zax (by omega)]
         ·simp only [d1,if_false]
          rw [Zax (by omega)])
        (by
         simp only [Qc,Int.lt_irrefl,if_false,List.take_length]
         rw [ZaP (l:=ZkW (Za.ZQ d).length ((Za.Instances d).map XZ++((Za.Z5 d).filter (fun p=>decide (ZU.Dir p=1))).map ZU.Net)) (show List.length _≤_ by rw [Zgf];omega) (fun _ x=>x=1) (bad:=.inr (.inr (.inr (.inr false)))) (good:=.inr (.inr (.inr (.inr true))))
          (fun k x hx hk _=>by
           simp only [JQ,show (k:Int)<((ZkW (Za.ZQ d).length ((Za.Instances d).map XZ++((Za.Z5 d).filter (fun p=>decide (ZU.Dir p=1))).map ZU.Net)).length:Int) from by omega,if_true,Zu,hx,Option.bind_some]
           constructor
           ·intro hh;rw [if_pos hh]
           ·intro hh;rw [if_neg hh])
          (fun _=>by simp only [JQ,Int.lt_irrefl,if_false])]
         congr 1
         have e:ZfZ (ZkW (Za.ZQ d).length ((Za.Instances d).map XZ++((Za.Z5 d).filter (fun p=>decide (ZU.Dir p=1))).map ZU.Net)) (fun _ x=>x=1)↔Zf1 d:=by
          rw [Zez];exact Iff.rfl
         by_cases hh:Zf1 d
         ·rw [VB (e.2 hh),YR hh]
         ·rw [Qu (fun q=>hh (e.1 q)),Yp hh])
       refine (show Zw (fun v=>Qc d v.1 v.2.1) ((0:Int),ZkW (Za.ZQ d).length ((Za.Instances d).map XZ),())=_ from (by simpa using this)).trans ?_
       rfl)
     rw [List.take_zero,List.map_nil,ZnR] at this
     refine (show Zw (fun v=>Qa d v.1 v.2.1) ((0:Int),List.replicate (Za.ZQ d).length 0,())=_ from this).trans ?_
     congr 3
     exact Jd ⟨fun q=>⟨⟨n1,n2,n3⟩,q⟩,fun q=>q.2⟩
    ·rw [if_neg (by rw [Yp n3];simp),Yp (fun q=>n3 q.1.2.2)]
   ·rw [if_neg (by rw [Yp n2];simp),Yp (fun q=>n2 q.1.2.1)]
  ·rw [if_neg (by rw [Yp n1];simp),Yp (fun q=>n1 q.1.1)]
 ·unfold Q6 Zje
  rw [Zez,Zez]
  constructor
  ·rintro ⟨q1,q2,q3,q4,⟨q5,q6⟩,⟨q7,q8,q9⟩,q10⟩
   exact ⟨q1,⟨by omega,by omega,by omega,q7,q9,q8⟩,q5,q6,q10⟩
  ·rintro ⟨q1,⟨q2,q3,q4,q7,q9,q8⟩,q5,q6,q10⟩
   exact ⟨q1,by omega,by omega,by omega,⟨q5,q6⟩,⟨q7,q8,q9⟩,q10⟩
end Go.Proofs.YtehkanadahncgaaGreatDoor
/-
  Plain laws: places, sinks, wires.
-/
namespace Go.Proofs.YtehkanadahncgaaGreatDoor
set_option linter.unusedVariables false
set_option linter.unusedSimpArgs false
open Go Go.Sx
def cat {α β:Type} (f:Nat→α→List β):Nat→List α→List β
 | _,[]=>[]
 | k,x::r=>f k x++cat f (k+1) r
theorem Zd5 {α β:Type} (f:Nat→α→List β):∀ (l r:List α) (m:Nat),cat f m (l++r)=cat f m l++cat f (m+l.length) r
 | [],r,m=>by simp [cat]
 | x::l,r,m=>by
  simp only [List.cons_append,cat,List.length_cons,Zd5 f l r,List.append_assoc]
  rw [show m+1+l.length=m+(l.length+1) by omega]
theorem Zgl {α β:Type} {f:Nat→α→List β} {l:List α} {k:Nat} {x:α} (hx:l[k]?=some x):cat f 0 (l.take (k+1))=cat f 0 (l.take k)++f k x:=by
 have hk:=(List.getElem?_eq_some_iff.1 hx).1
 rw [Yz hx,Zd5]
 simp only [cat,Nat.zero_add,List.length_take,List.append_nil]
 rw [show min k l.length=k by omega]
theorem Zg4 {α β:Type} {f:Nat→α→List β} {y:β}:∀ {l:List α} {m:Nat},y∈cat f m l↔∃ (k:Nat) (x:α),l[k]?=some x∧y∈f (m+k) x
 | [],m=>by simp [cat]
 | z::r,m=>by
  simp only [cat,List.mem_append,Zg4 (l:=r)]
  constructor
  ·rintro (h | ⟨k,x,h1,h2⟩)
   ·exact ⟨0,z,rfl,h⟩
   ·exact ⟨k+1,x,by simpa using h1,by rw [show m+(k+1)=m+1+k by omega];exact h2⟩
  ·rintro ⟨k,x,h1,h2⟩
   cases k with
   | zero=>simp at h1;subst h1;exact .inl h2
   | succ k=>exact .inr ⟨k,x,by simpa using h1,by rw [show m+1+k=m+(k+1) by omega];exact h2⟩
theorem ZiA {α β:Type} {f:Nat→α→List β} {c:Nat}:∀ {l:List α} {m:Nat},(∀ k,∀ x∈l,(f k x).length≤c)→(cat f m l).length≤c*l.length
 | [],m,_=>by simp [cat]
 | z::r,m,h=>by
  simp only [cat,List.length_append,List.length_cons]
  have h1:=h m z (by simp)
  have h2:=ZiA (f:=f) (l:=r) (m:=m+1) (fun k x hx=>h k x (by simp [hx]))
  rw [Nat.mul_add];omega
theorem Zde {α β ρ:Type} {l:List α} (f:Nat→α→List β) (acc:List β) {step:List β×Int×Unit→Option ((List β×Int×Unit) ⊕ ρ)} {good:ρ}
  (hs:∀ (k:Nat) (x:α),l[k]?=some x→k<l.length→step (acc++cat f 0 (l.take k),(k:Int),())=some (.inl ((acc++cat f 0 (l.take k))++f k x,((k+1:Nat):Int),())))
  (hx:step (acc++cat f 0 l,(l.length:Int),())=some (.inr good)):Zw step (acc,(0:Int),())=some good:=by
 have:=YF (l:=l) (ρ:=ρ) (fun k=>(acc++cat f 0 (l.take k),(k:Int),())) (step:=step) (good:=good) (fun k x hx hk=>by
  rw [hs k x hx hk,Zgl hx,List.append_assoc]) (by simp only [List.take_length];exact hx)
 simpa [cat] using this
abbrev Pl:=Int×Int×Int×Bool×Unit
def QB (i:Nat) (x:Zd):List Pl:=cat (fun j n=>[((i:Int),(j:Int),n,decide ((j:Int)=IntKind.i64.wrap (((Zd.ZQ x).length:Int)-1)),())]) 0 (Zd.ZQ x)
def ZeH (j:Nat) (p:ZU):List Pl:=[((-1:Int),(j:Int),ZU.Net p,decide (ZU.Dir p=1),())]
def places (d:Za):List Pl:=cat QB 0 (Za.Instances d)++cat ZeH 0 (Za.Z5 d)
theorem Zq1 (i:Nat) (x:Zd):(QB i x).length≤(Zd.ZQ x).length:=by
 have:=ZiA (f:=fun j n=>[((i:Int),(j:Int),n,decide ((j:Int)=IntKind.i64.wrap (((Zd.ZQ x).length:Int)-1)),())]) (c:=1) (l:=Zd.ZQ x) (m:=0) (fun _ _ _=>by simp)
 simpa [QB] using this
structure Few (d:Za):Prop where
 insts:(Za.Instances d).length≤14
 ports:(Za.Z5 d).length≤8
 nets:∀ x∈Za.Instances d,(Zd.ZQ x).length≤5
theorem Q6.few {a:Zl} {d:Za} (h:Q6 a d):Few d:=by
 refine ⟨h.2.1.1,h.2.1.2.2.1,fun x hx=>?_⟩
 obtain ⟨_,⟨c,hc,hn⟩,_⟩:=h.2.2.1 x hx
 have:=(h.1.2.1 c (List.mem_of_getElem? hc)).2.1.2.1
 omega
theorem ZeF {d:Za} (h:Few d) (k:Nat):(cat QB 0 ((Za.Instances d).take k)).length≤70:=by
 have:=ZiA (f:=QB) (c:=5) (l:=(Za.Instances d).take k) (m:=0) (fun i x hx=>by
  have h1:=Zq1 i x
  have h2:=h.nets x (List.mem_of_mem_take hx)
  omega)
 have h1:=h.insts
 rw [List.length_take] at this
 omega
theorem ZgX {d:Za} (h:Few d) (k:Nat):(cat ZeH 0 ((Za.Z5 d).take k)).length≤8:=by
 have:=ZiA (f:=ZeH) (c:=1) (l:=(Za.Z5 d).take k) (m:=0) (fun i x hx=>by simp [ZeH])
 have h1:=h.ports
 rw [List.length_take] at this
 omega
theorem Vf {d:Za} (h:Few d):(places d).length≤78:=by
 have h1:=ZeF h (Za.Instances d).length
 have h2:=ZgX h (Za.Z5 d).length
 rw [List.take_length] at h1 h2
 unfold places
 rw [List.length_append];omega
theorem YG (d:Za) (h:Few d):Yn d=some (places d):=by
 have h1:=h.insts
 have h2:=h.ports
 unfold Yn
 refine Zde (l:=Za.Instances d) QB [] (fun k x hx hk=>?_) ?_
 ·have hn:=h.nets x (List.mem_of_getElem? hx)
  have hl:=ZeF h k
  simp only [List.nil_append,Qq,show (k:Int)<((Za.Instances d).length:Int) from by omega,if_true,Zu,hx,Option.bind_some]
  refine Zde (l:=Zd.ZQ x) (fun j n=>[((k:Int),(j:Int),n,decide ((j:Int)=IntKind.i64.wrap (((Zd.ZQ x).length:Int)-1)),())]) _ (fun j n hj hk'=>?_) ?_
  ·have hl2:=ZiA (f:=fun j n=>[((k:Int),(j:Int),n,decide ((j:Int)=IntKind.i64.wrap (((Zd.ZQ x).length:Int)-1)),())]) (c:=1) (l:=(Zd.ZQ x).take j) (m:=0) (fun _ _ _=>by simp)
   rw [List.length_take] at hl2
   simp only [Qk,show (j:Int)<((Zd.ZQ x).length:Int) from by omega,if_true,Zu,hj,Option.bind_some]
   rw [Zi (by rw [List.length_append,List.length_singleton];omega),Zax (by omega)]
  ·simp only [Qk,Int.lt_irrefl,if_false]
   rw [Zax (by omega)];rfl
 ·have hl:=ZeF h (Za.Instances d).length
  rw [List.take_length] at hl
  simp only [List.nil_append,Qq,Int.lt_irrefl,if_false]
  refine Zde (l:=Za.Z5 d) ZeH _ (fun j p hj hk'=>?_) ?_
  ·have hl2:=ZgX h j
   simp only [Qm,show (j:Int)<((Za.Z5 d).length:Int) from by omega,if_true,Zu,hj,Option.bind_some]
   rw [Zi (by rw [List.length_append,List.length_singleton];omega),Zax (by omega)];rfl
  ·simp only [Qm,Int.lt_irrefl,if_false];rfl
theorem Vh (d:Za) (h:Few d):Xu d=some (places d):=by
 have h1:=h.insts
 have h2:=h.ports
 unfold Xu
 refine Zde (l:=Za.Instances d) QB [] (fun k x hx hk=>?_) ?_
 ·have hn:=h.nets x (List.mem_of_getElem? hx)
  have hl:=ZeF h k
  simp only [List.nil_append,VW,show (k:Int)<((Za.Instances d).length:Int) from by omega,if_true,Zu,hx,Option.bind_some]
  refine Zde (l:=Zd.ZQ x) (fun j n=>[((k:Int),(j:Int),n,decide ((j:Int)=IntKind.i64.wrap (((Zd.ZQ x).length:Int)-1)),())]) _ (fun j n hj hk'=>?_) ?_
  ·have hl2:=ZiA (f:=fun j n=>[((k:Int),(j:Int),n,decide ((j:Int)=IntKind.i64.wrap (((Zd.ZQ x).length:Int)-1)),())]) (c:=1) (l:=(Zd.ZQ x).take j) (m:=0) (fun _ _ _=>by simp)
   rw [List.length_take] at hl2
   simp only [V5,show (j:Int)<((Zd.ZQ x).length:Int) from by omega,if_true,Zu,hj,Option.bind_some]
   rw [Zi (by rw [List.length_append,List.length_singleton];omega),Zax (by omega)]
  ·simp only [V5,Int.lt_irrefl,if_false]
   rw [Zax (by omega)];rfl
 ·have hl:=ZeF h (Za.Instances d).length
  rw [List.take_length] at hl
  simp only [List.nil_append,VW,Int.lt_irrefl,if_false]
  refine Zde (l:=Za.Z5 d) ZeH _ (fun j p hj hk'=>?_) ?_
  ·have hl2:=ZgX h j
   simp only [V7,show (j:Int)<((Za.Z5 d).length:Int) from by omega,if_true,Zu,hj,Option.bind_some]
   rw [Zi (by rw [List.length_append,List.length_singleton];omega),Zax (by omega)];rfl
  ·simp only [V7,Int.lt_irrefl,if_false];rfl
def Za5 (net:Int) (i:Nat) (x:Pl):List Int:=if x.2.2.1=net then (if x.2.2.2.1=true then [] else [(i:Int)]) else []
def sinks (d:Za) (net:Int):List Int:=cat (Za5 net) 0 (places d)
theorem Zfi (net:Int) (l:List Pl) (m:Nat):(cat (Za5 net) m l).length≤l.length:=by
 have:=ZiA (f:=Za5 net) (c:=1) (l:=l) (m:=m) (fun i x _=>by
  unfold Za5;split
  ·split<;>simp
  ·simp)
 omega
theorem ZhE (d:Za) (net:Int) (h:Few d):Jy d net=some (sinks d net):=by
 have hp:=Vf h
 unfold Jy
 rw [YG d h,Option.bind_some]
 refine Zde (l:=places d) (Za5 net) [] (fun k x hx hk=>?_) ?_
 ·have hl:=Zfi net ((places d).take k) 0
  rw [List.length_take] at hl
  simp only [List.nil_append,QE,show (k:Int)<((places d).length:Int) from by omega,if_true,Zu,hx,Option.bind_some,Za5,Zax (show k≤1048576 by omega)]
  split
  ·split
   ·rw [List.append_nil]
   ·rw [Zi (by
     show (List.length _+1)*8≤_
     have:(cat (Za5 net) 0 ((places d).take k)).length≤78:=by omega
     omega)]
  ·rw [List.append_nil]
 ·simp only [List.nil_append,QE,Int.lt_irrefl,if_false];rfl
theorem Zac (d:Za) (net:Int) (h:Few d):X7 d net=some (sinks d net):=by
 have hp:=Vf h
 unfold X7
 rw [Vh d h,Option.bind_some]
 refine Zde (l:=places d) (Za5 net) [] (fun k x hx hk=>?_) ?_
 ·have hl:=Zfi net ((places d).take k) 0
  rw [List.length_take] at hl
  simp only [List.nil_append,JC,show (k:Int)<((places d).length:Int) from by omega,if_true,Zu,hx,Option.bind_some,Za5,Zax (show k≤1048576 by omega)]
  split
  ·split
   ·rw [List.append_nil]
   ·rw [Zi (by
     show (List.length _+1)*8≤_
     have:(cat (Za5 net) 0 ((places d).take k)).length≤78:=by omega
     omega)]
  ·rw [List.append_nil]
 ·simp only [List.nil_append,JC,Int.lt_irrefl,if_false];rfl
theorem ZlO (net:Int):∀ (l:List Pl) (m:Nat),(cat (Za5 net) m l).length=((l.filter (fun x=>!x.2.2.2.1)).map (fun x=>x.2.2.1)).countP (fun y=>decide (y=net))
 | [],m=>by simp [cat]
 | x::r,m=>by
  simp only [cat,List.length_append,ZlO net r,Za5]
  obtain ⟨a,b,n,dr,u⟩:=x
  cases dr
  ·by_cases e:n=net
   ·simp [e,Nat.add_comm]
   ·simp [e]
  ·simp
end Go.Proofs.YtehkanadahncgaaGreatDoor
/-
  Plain laws: wires, blocks.
-/
namespace Go.Proofs.YtehkanadahncgaaGreatDoor
set_option linter.unusedVariables false
set_option linter.unusedSimpArgs false
open Go Go.Sx
theorem Zh8 {w:Zn} (h:sm YJ w):sm (.sl (.int .i64)) (Zn.Parent w)∧sm (.sl (.int .i64)) (Zn.Res w)∧sm (.sl (.int .i64)) (Zn.Cap w)∧sm (.sl (.int .i64)) (Zn.Zfp w):=by
 refine ⟨?_,?_,?_,?_⟩
 all_goals first | exact h.1 | exact h.2.1 | exact h.2.2.1 | exact h.2.2.2.1
theorem Za4 {b:Zb} (h:sm Yr b):sm Z0 (Zb.Library b)∧sm Z8 (Zb.Design b)∧sm (.sl YJ) (Zb.Zz b):=by
 refine ⟨?_,?_,?_⟩
 all_goals first | exact h.1 | exact h.2.1 | exact h.2.2.1 | exact h.2.2.2.1
def Zml (w:Zn) (k:Nat) (x:Int):Prop:=(k=0→x=-1∧(Zn.Res w)[0]?=some 0)∧(0<k→0≤x∧x≤(k:Int)-1)
def Zb3 (w:Zn) (s:Int):Prop :=
 (1≤(Zn.Parent w).length∧(Zn.Parent w).length≤8)∧(Zn.Res w).length=(Zn.Parent w).length∧(Zn.Cap w).length=(Zn.Parent w).length∧((Zn.Zfp w).length:Int)=s∧
 ZfZ (Zn.Parent w) (Zml w)∧Zg8 (Zn.Res w) 0 1000∧Zg8 (Zn.Cap w) 0 500∧Zg8 (Zn.Zfp w) 0 (((Zn.Parent w).length:Int)-1)
theorem ZgY (l:List Int) (lo hi:Int) (hl:l.length≤1048576):Xt l lo hi=some (tr (Zg8 l lo hi)):=by
 rw [Zcv l lo hi (by omega)]
 exact ZdB (Zjd _ _ _)
theorem ZiM (w:Zn) (hw:sm YJ w) (h1:1≤(Zn.Parent w).length) (h2:(Zn.Res w).length=(Zn.Parent w).length):Zad w=some (tr (ZfZ (Zn.Parent w) (Zml w))):=by
 obtain ⟨a1,a2,a3,a4⟩:=Zh8 hw
 have s1:=Zm a1
 unfold Zad
 have hr:(Zn.Res w)[0]?=some (Zn.Res w)[0]:=List.getElem?_eq_getElem (by omega)
 rw [ZaP (XF a1) (Zml w) (bad:=false) (good:=true)
  (fun k x hx hk _=>by
   simp only [Q7,show (k:Int)<((Zn.Parent w).length:Int) from by omega,if_true,Zu,hx,Option.bind_some]
   unfold Zml
   by_cases hk0:k=0
   ·subst hk0
    rw [if_pos (by rfl),show atI (Zn.Res w) 0=some (Zn.Res w)[0] from hr,hr]
    simp only [Option.bind_some,Option.some.injEq]
    rw [if_neg (show ¬(0:Int)<((0:Nat):Int) by omega)]
    constructor
    ·intro hh
     obtain ⟨q1,q2⟩:=hh.1 trivial
     rw [if_pos q1,if_pos q2]
    ·intro hh
     by_cases q1:x=-1
     ·rw [if_pos q1,if_neg (fun q2=>hh ⟨fun _=>⟨q1,q2⟩,fun h=>by omega⟩)]
     ·rw [if_neg q1]
   ·rw [if_neg (by omega),if_pos (by omega),Zbd,Option.bind_some,V8 (by omega) (by omega)]
    constructor
    ·intro hh;rw [if_pos (YR (hh.2 (by omega)))]
    ·intro hh;rw [if_neg (fun q=>hh ⟨fun h=>absurd h hk0,fun _=>(Vp _).1 q⟩)])
  (fun _=>by simp only [Q7,Int.lt_irrefl,if_false]),ZlK]
theorem Zh3 (w:Zn) (s:Int) (hw:sm YJ w):ZcZ w s=some (tr (Zb3 w s)):=by
 obtain ⟨a1,a2,a3,a4⟩:=Zh8 hw
 have s1:=Zm a1
 have s2:=Zm a2
 have s3:=Zm a3
 have s4:=Zm a4
 unfold ZcZ
 simp only [ZaF,Option.bind_some,V8 (show (-9223372036854775808:Int)≤((Zn.Parent w).length:Int)-1 by omega) (by omega)]
 refine J2 (Xl (Zbd _ _ _) (fun q1=>YE (fun q2=>YE (fun q3=>Xl (ZiM w hw (by omega) (by omega)) (fun q4=>Xl (ZgY _ _ _ s2) (fun q5=>Xl (ZgY _ _ _ s3) (fun q6=>YE (fun q7=>Zdn (ZgY _ _ _ s4))))))))) ?_
 unfold Zb3
 constructor
 ·rintro ⟨q1,q2,q3,q4,q5,q6,q7,q8⟩
  exact ⟨⟨by omega,by omega⟩,by omega,by omega,q7,q4,q5,q6,q8⟩
 ·rintro ⟨q1,q2,q3,q7,q4,q5,q6,q8⟩
  exact ⟨by omega,by omega,by omega,q4,q5,q6,q7,q8⟩
theorem ZqN {l:List Int} {lo hi:Int}:Zg8 l lo hi↔∀ (k:Nat) (x:Int),l[k]?=some x→lo≤x∧x≤hi:=by
 unfold Zg8
 constructor
 ·intro h k x hx;exact h x (List.mem_of_getElem? hx)
 ·intro h x hx
  obtain ⟨k,hk⟩:=List.mem_iff_getElem?.1 hx
  exact h k x hk
theorem Zif (w:Zn) (s:Int) (hw:sm YJ w):ZcW w s=some (tr (Zb3 w s)):=by
 obtain ⟨a1,a2,a3,a4⟩:=Zh8 hw
 have s1:=Zm a1
 have s2:=Zm a2
 have s3:=Zm a3
 have s4:=Zm a4
 have e1:IntKind.i64.wrap (((Zn.Parent w).length:Int)-1)=((Zn.Parent w).length:Int)-1:=V8 (by omega) (by omega)
 unfold ZcW
 refine J2 (Zgv (fun q1=>Zgv (fun q2=>YE (fun q3=>YE (fun q4=>YE (fun q5=>?_)))))) ?_
  (P:=¬((Zn.Parent w).length:Int)<1∧¬(8:Int)<((Zn.Parent w).length:Int)∧((Zn.Res w).length:Int)=((Zn.Parent w).length:Int)∧((Zn.Cap w).length:Int)=((Zn.Parent w).length:Int)∧((Zn.Zfp w).length:Int)=s∧
   (ZfZ (Zn.Parent w) (fun k x=>(∀ c,(Zn.Cap w)[k]?=some c→0≤c∧c≤500)∧(∀ r,(Zn.Res w)[k]?=some r→0≤r∧r≤1000)∧Zml w k x)∧Zg8 (Zn.Zfp w) 0 (((Zn.Parent w).length:Int)-1)))
 ·rw [ZaP (XF a1) (fun k x=>(∀ c,(Zn.Cap w)[k]?=some c→0≤c∧c≤500)∧(∀ r,(Zn.Res w)[k]?=some r→0≤r∧r≤1000)∧Zml w k x) (bad:=false) (good:=tr (Zg8 (Zn.Zfp w) 0 (((Zn.Parent w).length:Int)-1)))
   (fun k x hx hk _=>by
    have hc:(Zn.Cap w)[k]?=some (Zn.Cap w)[k]:=List.getElem?_eq_getElem (by omega)
    have hr:(Zn.Res w)[k]?=some (Zn.Res w)[k]:=List.getElem?_eq_getElem (by omega)
    simp only [ZaO,show (k:Int)<((Zn.Parent w).length:Int) from by omega,if_true,Zu,hc,hr,hx,Option.bind_some,Za8,Option.some.injEq,forall_eq']
    generalize (Zn.Cap w)[k]=c at hc
    generalize (Zn.Res w)[k]=r at hr
    by_cases qc:0≤c∧c≤500
    ·rw [if_pos (YR qc)]
     by_cases qr:0≤r∧r≤1000
     ·rw [if_pos (YR qr)]
      unfold Zml
      by_cases hk0:k=0
      ·subst hk0
       rw [if_pos (by rfl),hr]
       simp only [Option.some.injEq]
       rw [if_neg (show ¬(0:Int)<((0:Nat):Int) by omega)]
       constructor
       ·rintro ⟨_,_,hh⟩
        obtain ⟨q1,q2⟩:=hh.1 trivial
        rw [if_pos q1,if_pos q2]
       ·intro hh
        by_cases q1:x=-1
        ·rw [if_pos q1,if_neg (fun q2=>hh ⟨qc,qr,fun _=>⟨q1,q2⟩,fun h=>by omega⟩)]
        ·rw [if_neg q1]
      ·rw [if_neg (by omega),if_pos (by omega),V8 (show (-9223372036854775808:Int)≤(k:Int)-1 by omega) (by omega)]
       constructor
       ·intro hh;rw [if_pos (YR (hh.2.2.2 (by omega)))]
       ·intro hh;rw [if_neg (fun q=>hh ⟨qc,qr,fun h=>absurd h hk0,fun _=>(Vp _).1 q⟩)]
     ·rw [if_neg (fun q=>qr ((Vp _).1 q))]
      exact ⟨fun hh=>absurd hh.2.1 qr,fun _=>rfl⟩
    ·rw [if_neg (fun q=>qc ((Vp _).1 q))]
     exact ⟨fun hh=>absurd hh.1 qc,fun _=>rfl⟩)
   (fun _=>by
    simp only [ZaO,Int.lt_irrefl,if_false]
    rw [ZaP (XF a4) (fun _ x=>0≤x∧x≤((Zn.Parent w).length:Int)-1) (bad:=.inr false) (good:=.inr true)
     (fun k x hx hk _=>by
      simp only [ZaN,show (k:Int)<((Zn.Zfp w).length:Int) from by omega,if_true,Zu,hx,Option.bind_some,Za8,e1]
      constructor
      ·intro hh;rw [if_pos (YR hh)]
      ·intro hh;rw [if_neg (fun q=>hh ((Vp _).1 q))])
     (fun _=>by simp only [ZaN,Int.lt_irrefl,if_false])]
    congr 1
    have e:ZfZ (Zn.Zfp w) (fun _ x=>0≤x∧x≤((Zn.Parent w).length:Int)-1)↔Zg8 (Zn.Zfp w) 0 (((Zn.Parent w).length:Int)-1):=Zez
    by_cases hh:Zg8 (Zn.Zfp w) 0 (((Zn.Parent w).length:Int)-1)
    ·rw [VB (e.2 hh),YR hh]
    ·rw [Qu (fun q=>hh (e.1 q)),Yp hh]),Zi8]
 ·unfold Zb3
  rw [ZqN (l:=Zn.Res w),ZqN (l:=Zn.Cap w)]
  constructor
  ·rintro ⟨q1,q2,q3,q4,q5,q6,q7⟩
   refine ⟨⟨by omega,by omega⟩,by omega,by omega,q5,fun k x hx=>(q6 k x hx).2.2,fun k r hr=>?_,fun k c hc=>?_,q7⟩
   ·have hk:=(List.getElem?_eq_some_iff.1 hr).1
    exact (q6 k _ (List.getElem?_eq_getElem (by omega))).2.1 r hr
   ·have hk:=(List.getElem?_eq_some_iff.1 hc).1
    exact (q6 k _ (List.getElem?_eq_getElem (by omega))).1 c hc
  ·rintro ⟨q1,q2,q3,q5,q6,q7,q8,q9⟩
   exact ⟨by omega,by omega,by omega,by omega,q5,fun k x hx=>⟨fun c hc=>q8 k c hc,fun r hr=>q7 k r hr,q6 k x hx⟩,q9⟩
def ZjU (b:Zb):Prop :=
 Q6 (Zb.Library b) (Zb.Design b)∧(Zb.Zz b).length=(Za.ZQ (Zb.Design b)).length∧ZfZ (Zb.Zz b) (fun k w=>Zb3 w ((sinks (Zb.Design b) (k:Int)).length:Int))
theorem ZaJ {a:Zl} {d:Za} (h:Q6 a d) {x:Pl} (hx:x∈places d):ZbA d x.2.2.1:=by
 unfold places at hx
 rcases List.mem_append.1 hx with hx | hx
 ·obtain ⟨i,z,hi,hz⟩:=Zg4.1 hx
  unfold QB at hz
  obtain ⟨j,n,hj,hn⟩:=Zg4.1 hz
  simp only [List.mem_singleton] at hn
  subst hn
  exact (h.2.2.1 z (List.mem_of_getElem? hi)).2.2 n (List.mem_of_getElem? hj)
 ·obtain ⟨j,p,hj,hp⟩:=Zg4.1 hx
  simp only [ZeH,List.mem_singleton] at hp
  subst hp
  exact (h.2.2.2.1 p (List.mem_of_getElem? hj)).2
theorem Zmz (b:Zb) (hb:sm Yr b):Zdi b=some (tr (ZjU b)):=by
 obtain ⟨a1,a2,a3⟩:=Za4 hb
 have s3:=Zm a3
 unfold Zdi
 refine J2 (Xl (Zlt _ _ a1 a2) (fun hD=>YE (fun q1=>?_))) ?_
  (P:=Q6 (Zb.Library b) (Zb.Design b)∧((Zb.Zz b).length:Int)=((Za.ZQ (Zb.Design b)).length:Int)∧ZfZ (Zb.Zz b) (fun k w=>Zb3 w ((sinks (Zb.Design b) (k:Int)).length:Int)))
 ·rw [ZaP (XF a3) (fun k w=>Zb3 w ((sinks (Zb.Design b) (k:Int)).length:Int)) (bad:=false) (good:=true)
   (fun k w hx hk _=>by
    simp only [Zai,show (k:Int)<((Zb.Zz b).length:Int) from by omega,if_true,Zu,hx,Option.bind_some,Zac _ _ hD.few,Zif w _ (ZaR a3 hx)]
    constructor
    ·intro hh;rw [if_pos (YR hh)]
    ·intro hh;rw [if_neg (fun q=>hh ((Vp _).1 q))])
   (fun _=>by simp only [Zai,Int.lt_irrefl,if_false]),ZlK]
 ·unfold ZjU
  rw [show ((Zb.Zz b).length:Int)=((Za.ZQ (Zb.Design b)).length:Int)↔(Zb.Zz b).length=(Za.ZQ (Zb.Design b)).length from by omega]
theorem Zrw {l:List Pl} {k:Nat} {x:Pl} (hx:l[k]?=some x) :
  (((l.take (k+1)).filter (fun x=>!x.2.2.2.1)).map (fun x=>x.2.2.1))=if x.2.2.2.1=true then (((l.take k).filter (fun x=>!x.2.2.2.1)).map (fun x=>x.2.2.1)) else (((l.take k).filter (fun x=>!x.2.2.2.1)).map (fun x=>x.2.2.1))++[x.2.2.1]:=by
 rw [Yz hx,List.filter_append,List.map_append]
 by_cases h:x.2.2.2.1=true
 ·rw [if_pos h];simp [h]
 ·rw [if_neg h];simp [h]
theorem ZlY (b:Zb) (hb:sm Yr b):Zc6 b=some (tr (ZjU b)):=by
 obtain ⟨a1,a2,a3⟩:=Za4 hb
 have s3:=Zm a3
 unfold Zc6
 refine J2 (Xl (Zla _ _ a1 a2) (fun hD=>YE (fun q1=>?_))) ?_
  (P:=Q6 (Zb.Library b) (Zb.Design b)∧((Zb.Zz b).length:Int)=((Za.ZQ (Zb.Design b)).length:Int)∧ZfZ (Zb.Zz b) (fun k w=>Zb3 w ((sinks (Zb.Design b) (k:Int)).length:Int)))
 ·rw [Zi (by omega),Zi (by omega),Zi (by omega),Zi (by omega),YG _ hD.few,Option.bind_some]
  have hpl:=Vf hD.few
  have:=YF (l:=places (Zb.Design b)) (ρ:=Bool) (fun k=>((k:Int),ZkW (Zb.Zz b).length ((((places (Zb.Design b)).take k).filter (fun x=>!x.2.2.2.1)).map (fun x=>x.2.2.1)),())) (step:=fun v=>VH b (places (Zb.Design b)) v.1 v.2.1) (good:=tr (ZfZ (Zb.Zz b) (fun k w=>Zb3 w ((sinks (Zb.Design b) (k:Int)).length:Int))))
   (fun k x hx hk=>by
    have hn:=ZaJ hD (List.mem_of_getElem? hx)
    have hl1:=List.length_filter_le (fun x:Pl=>!x.2.2.2.1) ((places (Zb.Design b)).take k)
    rw [List.length_take] at hl1
    simp only [VH,show (k:Int)<((places (Zb.Design b)).length:Int) from by omega,if_true,Zu,hx,Option.bind_some,Zrw hx]
    by_cases hd:x.2.2.2.1=true
    ·rw [if_pos hd,if_pos hd,Zax (by omega)]
    ·rw [if_neg hd,if_neg hd,ZgM hn.1 (by have:=hn.2;show x.2.2.1<_;omega) (by rw [List.length_map];omega) (F:=fun o=>some (Sum.inl (IntKind.i64.wrap ((k:Int)+1),o,()))),Zax (by omega)])
   (by
    simp only [VH,Int.lt_irrefl,if_false,List.take_length]
    rw [ZaP (XF a3) (fun k w=>Zb3 w ((sinks (Zb.Design b) (k:Int)).length:Int)) (bad:=.inr false) (good:=.inr true)
     (fun k w hx hk _=>by
      have hc:(sinks (Zb.Design b) (k:Int)).length=_:=ZlO (k:Int) (places (Zb.Design b)) 0
      simp only [Zat,show (k:Int)<((Zb.Zz b).length:Int) from by omega,if_true,Zu,hx,Option.bind_some]
      rw [Zhk hk,Option.bind_some,Zh3 w _ (ZaR a3 hx),Option.bind_some,hc]
      constructor
      ·intro hh;rw [if_pos (YR hh)]
      ·intro hh;rw [if_neg (fun q=>hh ((Vp _).1 q))])
     (fun _=>by simp only [Zat,Int.lt_irrefl,if_false])]
    congr 1
    by_cases hh:ZfZ (Zb.Zz b) (fun k w=>Zb3 w ((sinks (Zb.Design b) (k:Int)).length:Int))
    ·rw [VB hh,YR hh]
    ·rw [Qu hh,Yp hh])
  rw [List.take_zero,List.filter_nil,List.map_nil,ZnR] at this
  exact this
 ·unfold ZjU
  rw [show ((Zb.Zz b).length:Int)=((Za.ZQ (Zb.Design b)).length:Int)↔(Zb.Zz b).length=(Za.ZQ (Zb.Design b)).length from by omega]
structure ZbI (b:Zb):Prop where
 ok:ZjU b
 sm:sm Yr b
end Go.Proofs.YtehkanadahncgaaGreatDoor
