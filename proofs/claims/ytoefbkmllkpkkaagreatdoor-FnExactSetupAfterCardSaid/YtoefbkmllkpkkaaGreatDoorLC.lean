/-
  Plain laws: designs.
-/
import Derived.Test.YtoefbkmllkpkkaaGreatDoorLB
import Derived.Test.YtoefbkmllkpkkaaGreatDoorLA
namespace Go.Proofs.YtoefbkmllkpkkaaGreatDoor
set_option linter.unusedVariables false
set_option linter.unusedSimpArgs false
open Go Go.Sx
theorem Zck {d:Zb} (h:sm Yr d):sm (.sl ZX) (Zb.Instances d)∧sm (.sl Jf) (Zb.ZK d)∧sm (.sl .str) (Zb.ZI d):=by
 refine ⟨?_,?_,?_⟩
 ·first | exact h.1 | exact h.2.1 | exact h.2.2.1 | exact h.2.2.2.1
 ·first | exact h.1 | exact h.2.1 | exact h.2.2.1 | exact h.2.2.2.1
 ·first | exact h.1 | exact h.2.1 | exact h.2.2.1 | exact h.2.2.2.1
theorem ZmQ {x:Ze} (h:sm ZX x):sm .str (Ze.Name x)∧sm (.sl (.int .i64)) (Ze.ZI x):=by
 refine ⟨?_,?_⟩
 ·first | exact h.1 | exact h.2.1 | exact h.2.2.1 | exact h.2.2.2.1
 ·first | exact h.1 | exact h.2.1 | exact h.2.2.1 | exact h.2.2.2.1
theorem ZA1 {x:ZT} (h:sm Jf x):sm .str (ZT.Name x):=by
 first | exact h.1 | exact h.2.1 | exact h.2.2.1 | exact h.2.2.2.1
theorem ZiL (d:Zb) (h:sm Yr d):J8 d=some (tr (ZmN d)):=by
 obtain ⟨h1,h2,h3⟩:=Zck h
 have s1:=Zo h1
 have s2:=Zo h2
 have s3:=Zo h3
 unfold J8
 refine gather (l:=Zb.Instances d) s1 Ze.Name (fun k x o hx hk ho=>?_) ?_
 ·simp only [Je,hk,if_true,Zt,hx,Option.bind_some]
 simp only [Je,Int.lt_irrefl,if_false]
 have hi:(ZaE d).length=(Zb.Instances d).length:=by simp [ZaE]
 have hp:(ZcZ d).length=(Zb.ZK d).length:=by simp [ZcZ]
 refine gather (l:=Zb.ZK d) s2 ZT.Name (fun k x o hx hk ho=>?_) ?_
 ·simp only [Ji,hk,if_true,Zt,hx,Option.bind_some]
 simp only [Ji,Int.lt_irrefl,if_false]
 rw [show List.map ZT.Name (Zb.ZK d)=ZcZ d from rfl,show List.map Ze.Name (Zb.Instances d)=ZaE d from rfl]
 simp only [hi,hp,Vh _ (show (ZaE d).length≤4611686018427387904 by omega),Vh _ (show (ZcZ d).length≤4611686018427387904 by omega),Vh _ (show (Zb.ZI d).length≤4611686018427387904 by omega),Option.bind_some]
 unfold ZmN
 rw [hi,hp]
 by_cases a:(Zb.Instances d).length≤14
 ·rw [if_pos (by omega)]
  by_cases b:(Zb.ZI d).length≤30
  ·rw [if_pos (by omega)]
   by_cases c:(Zb.ZK d).length≤8
   ·rw [if_pos (by omega)]
    by_cases e:Qd (ZaE d) (Zb.Instances d).length
    ·rw [if_pos (Ye e)]
     by_cases f:Qd (Zb.ZI d) (Zb.ZI d).length
     ·rw [if_pos (Ye f)]
      congr 3
      exact YI ⟨fun q=>⟨a,b,c,e,f,q⟩,fun q=>q.2.2.2.2.2⟩
     ·rw [if_neg (by rw [ZR f];simp),ZR (fun q=>f q.2.2.2.2.1)]
    ·rw [if_neg (by rw [ZR e];simp),ZR (fun q=>e q.2.2.2.1)]
   ·rw [if_neg (by omega),ZR (fun q=>c q.2.2.1)]
  ·rw [if_neg (by omega),ZR (fun q=>b q.2.1)]
 ·rw [if_neg (by omega),ZR (fun q=>a q.1)]
def ZpF (n:Nat) (s:List Int):List Int:=(List.range n).map (fun (j:Nat)=>((s.countP (fun x=>decide (x=(j:Int))):Nat):Int))
theorem ZiP (n:Nat) (s:List Int):(ZpF n s).length=n:=by simp [ZpF]
theorem Zti (n:Nat):ZpF n []=List.replicate n 0:=by
 apply List.ext_getElem?
 intro i
 simp only [ZpF,List.countP_nil,List.getElem?_map,List.getElem?_replicate,List.getElem?_range]
 by_cases h:i<n
 ·simp [h]
 ·simp [h]
theorem ZkP {n:Nat} {s:List Int} {j:Nat} (h:j<n):(ZpF n s)[j]?=some ((s.countP (fun x=>decide (x=(j:Int))):Nat):Int):=by
 simp [ZpF,h]
theorem ZBw {n:Nat} {s:List Int} {x:Int} (h0:0≤x) (h1:x<(n:Int)):atI (ZpF n s) x=some ((s.countP (fun y=>decide (y=x)):Nat):Int):=by
 refine Qa h0 ?_
 rw [ZkP (by omega),show ((x.toNat:Nat):Int)=x by omega]
theorem ZzU {n:Nat} {s:List Int} {x:Int} (h0:0≤x) (h1:x<(n:Int)):List.set (ZpF n s) (Int.toNat x) (((s.countP (fun y=>decide (y=x)):Nat):Int)+1)=ZpF n (s++[x]):=by
 apply List.ext_getElem?
 intro i
 rw [List.getElem?_set]
 by_cases hi:i<n
 ·rw [ZkP hi,ZkP hi,List.countP_append,ZiP]
  by_cases e:x.toNat=i
  ·subst e
   rw [if_pos rfl,if_pos (by omega),show ((x.toNat:Nat):Int)=x by omega]
   simp
  ·rw [if_neg e]
   have:¬x=(i:Int):=by omega
   simp [List.countP_cons,this]
 ·have h1:(ZpF n s)[i]?=none:=by rw [List.getElem?_eq_none];rw [ZiP];omega
  have h2:(ZpF n (s++[x]))[i]?=none:=by rw [List.getElem?_eq_none];rw [ZiP];omega
  rw [h1,h2]
  split
  ·split
   ·rename_i h3;rw [ZiP] at h3;omega
   ·rfl
  ·rfl
theorem Zke {n:Nat} {s:List Int} {x:Int} (h0:0≤x) (h1:x<(n:Int)) (hs:s.length≤1048576000) {τ:Type} (F:List Int→Option τ) :
  ((atI (ZpF n s) x).bind fun y=>F (List.set (ZpF n s) (Int.toNat x) (IntKind.i64.wrap (y+1))))=F (ZpF n (s++[x])):=by
 have h2:=List.countP_le_length (p:=fun y=>decide (y=x)) (l:=s)
 rw [ZBw h0 h1,Option.bind_some,Qc (by omega) (by omega),ZzU h0 h1]
def XW (x:Ze):Int:=(Ze.ZI x).getLastD 0
def Zbw (d:Zb) (n:Int):Prop:=0≤n∧n≤((Zb.ZI d).length:Int)-1
def ZlF (a:Zp) (d:Zb) (x:Ze):Prop :=
 (0≤Ze.Cell x∧Ze.Cell x≤((Zp.Cells a).length:Int)-1)∧(∃ c,(Zp.Cells a)[(Ze.Cell x).toNat]?=some c∧(Ze.ZI x).length=(Zm.YC c).length)∧∀ n∈Ze.ZI x,Zbw d n
def ZlO (d:Zb) (p:ZT):Prop:=(1≤ZT.Dir p∧ZT.Dir p≤2)∧Zbw d (ZT.Net p)
def Zro (d:Zb):List Int:=(Zb.Instances d).map XW++((Zb.ZK d).filter (fun p=>decide (ZT.Dir p=1))).map ZT.Net
def Zii (d:Zb):Prop:=∀ x∈ZpF (Zb.ZI d).length (Zro d),x=1
def Qm (a:Zp) (d:Zb):Prop:=Zvu a∧ZmN d∧(∀ x∈Zb.Instances d,ZlF a d x)∧(∀ p∈Zb.ZK d,ZlO d p)∧Zii d
theorem ZlF.last {a:Zp} {d:Zb} {x:Ze} (h:ZlF a d x) (hl:Zvu a) (hsm:(Ze.ZI x).length≤1048576):atI (Ze.ZI x) (IntKind.i64.wrap (((Ze.ZI x).length:Int)-1))=some (XW x)∧Zbw d (XW x):=by
 obtain ⟨_,⟨c,hc,hn⟩,hall⟩:=h
 have h2:2≤(Zm.YC c).length:=(hl.2.1 c (List.mem_of_getElem? hc)).2.1.1
 unfold XW
 cases hN:Ze.ZI x with
 | nil=>rw [hN] at hn;simp at hn;omega
 | cons y r =>
  rw [hN] at hsm
  rw [Zo1 hsm (by simp),Zt]
  have e:(y::r)[(y::r).length-1]?=some ((y::r).getLastD 0):=by
   rw [←List.getLast?_eq_getElem?,List.getLastD_eq_getLast?,List.getLast?_cons];rfl
  exact ⟨e,hall _ (by rw [hN];exact List.mem_of_getElem? e)⟩
theorem ZcR (d:Zb) (n:Int) (h:sm Yr d):Y0 d n=some (tr (Zbw d n)):=by
 have s3:=Zo (Zck h).2.2
 unfold Y0
 rw [show Xx (Zb.ZI d)=some ((Zb.ZI d).length:Int) from rfl,Option.bind_some,Qc (by omega) (by omega)]
 exact JO (XD _ _ _)
theorem ZhZ (d:Zb) (a:Zp) (x:Ze) (hd:sm Yr d) (ha:sm YN a) (hx:sm ZX x):V6 d a x=some (tr (ZlF a d x)):=by
 have sa:=Zo (ZrA ha)
 unfold V6
 rw [show X7 (Zp.Cells a)=some ((Zp.Cells a).length:Int) from rfl,Option.bind_some,Qc (by omega) (by omega)]
 refine Vm (P:=(0≤Ze.Cell x∧Ze.Cell x≤((Zp.Cells a).length:Int)-1)∧ZlF a d x) (YF (XD _ _ _) (fun hw=>?_)) ⟨fun q=>q.2,fun q=>⟨q.1,q⟩⟩
 obtain ⟨c,hc1,hc2⟩:=Zsq hw.1 (show Ze.Cell x<((Zp.Cells a).length:Int) by omega)
 rw [hc1,Option.bind_some]
 refine Vm (P:=((Ze.ZI x).length:Int)=((Zm.YC c).length:Int)∧∀ n∈Ze.ZI x,Zbw d n) (Yz (fun he=>?_)) ?_
 ·rw [Qf (YT (ZmQ hx).2) (fun n=>!tr (Zbw d n)) (fun n _=>by
   unfold XU
   show (Y0 d n).bind _=_
   rw [ZcR d n hd];rfl),Option.bind_some]
  refine JW ?_
  rw [Bool.not_eq_true',List.any_eq_false]
  constructor
  ·intro q n hn
   have:=q n hn
   simp only [Bool.not_eq_true',Bool.not_eq_false] at this
   exact (Xa _).1 this
  ·intro q n hn
   simp only [Bool.not_eq_true',Bool.not_eq_false]
   exact Ye (q n hn)
 ·constructor
  ·rintro ⟨q1,q2⟩;exact ⟨hw,⟨c,hc2,by omega⟩,q2⟩
  ·rintro ⟨_,⟨c',q1,q2⟩,q3⟩
   rw [hc2] at q1;injection q1 with q1;subst q1
   exact ⟨by omega,q3⟩
theorem Zwc {d:Zb} {k:Nat} {p:ZT} (hx:(Zb.ZK d)[k]?=some p) (s:List Int) :
  s++(((Zb.ZK d).take (k+1)).filter (fun p=>decide (ZT.Dir p=1))).map ZT.Net=(if ZT.Dir p=1 then (s++(((Zb.ZK d).take k).filter (fun p=>decide (ZT.Dir p=1))).map ZT.Net)++[ZT.Net p] else s++(((Zb.ZK d).take k).filter (fun p=>decide (ZT.Dir p=1))).map ZT.Net):=by
 rw [Z6 hx,List.filter_append,List.map_append]
 by_cases h:ZT.Dir p=1
 ·rw [if_pos h];simp [h]
 ·rw [if_neg h];simp [h]
theorem Zx1 {d:Zb} (k m:Nat):(((Zb.Instances d).take m).map XW++(((Zb.ZK d).take k).filter (fun p=>decide (ZT.Dir p=1))).map ZT.Net).length≤(Zb.Instances d).length+(Zb.ZK d).length:=by
 have h:=List.length_filter_le (fun p=>decide (ZT.Dir p=1)) ((Zb.ZK d).take k)
 simp only [List.length_append,List.length_map,List.length_take] at h ⊢
 omega
theorem ZpV (a:Zp) (d:Zb) (ha:sm YN a) (hd:sm Yr d):Zgx a d=some (tr (Qm a d)):=by
 obtain ⟨h1,h2,h3⟩:=Zck hd
 have s1:=Zo h1
 have s2:=Zo h2
 have s3:=Zo h3
 unfold Zgx
 refine Vm (P:=Zvu a∧ZmN d∧(ZfU (Zb.Instances d) (fun _ x=>ZlF a d x)∧(ZfU (Zb.ZK d) (fun _ p=>ZlO d p)∧Zii d))) (YF (Zot a ha) (fun hL=>YF (ZiL d hd) (fun hN=>?_))) (by rw [JB,JB];exact Iff.rfl)
 rw [Zj (by omega),Zj (by omega),Zj (by omega),Zj (by omega)]
 have:=Zhr (l:=Zb.Instances d) (ρ:=Bool) (fun k=>((k:Int),ZpF (Zb.ZI d).length (((Zb.Instances d).take k).map XW),())) (fun _ x=>ZlF a d x) (step:=fun v=>ZaN a d v.1 v.2.1) (bad:=false) (good:=tr (ZfU (Zb.ZK d) (fun _ p=>ZlO d p)∧Zii d))
  (fun k x hx hk _=>by
   have hsx:=Jd h1 hx
   simp only [ZaN,show (k:Int)<((Zb.Instances d).length:Int) from by omega,if_true,Zt,hx,Option.bind_some,ZhZ d a x hd ha hsx]
   constructor
   ·intro hh
    obtain ⟨e1,e2⟩:=hh.last hL (Zo (ZmQ hsx).2)
    rw [if_pos (Ye hh),e1,Option.bind_some,Zke e2.1 (by have:=e2.2;omega) (by simp only [List.length_map,List.length_take];omega) (F:=fun o=>some (Sum.inl (IntKind.i64.wrap ((k:Int)+1),o,()))),Z6 hx,List.map_append,XK (by omega)]
    rfl
   ·intro hh;rw [if_neg (by rw [ZR hh];simp)])
  (fun hA=>by
   simp only [ZaN,Int.lt_irrefl,if_false,List.take_length]
   have:=Zhr (l:=Zb.ZK d) (ρ:=Int×List Int×Unit ⊕ Bool) (fun k=>((k:Int),ZpF (Zb.ZI d).length ((Zb.Instances d).map XW++(((Zb.ZK d).take k).filter (fun p=>decide (ZT.Dir p=1))).map ZT.Net),())) (fun _ p=>ZlO d p) (step:=fun v=>VU d v.1 v.2.1) (bad:=.inr false) (good:=.inr (tr (Zii d)))
    (fun k p hx hk _=>by
     have hl:=Zx1 (d:=d) k (Zb.Instances d).length
     rw [List.take_length] at hl
     simp only [VU,show (k:Int)<((Zb.ZK d).length:Int) from by omega,if_true,Zt,hx,Option.bind_some,ZcR d _ hd,Zwc hx]
     by_cases d1:ZT.Dir p=1
     ·simp only [d1,if_true]
      constructor
      ·intro hh
       rw [if_pos (Ye hh.2),Zke hh.2.1 (by have:=hh.2.2;omega) (by omega) (F:=fun o=>some (Sum.inl (IntKind.i64.wrap ((k:Int)+1),o,()))),XK (by omega)]
      ·intro hh
       rw [if_neg (by rw [ZR (fun q=>hh ⟨by omega,q⟩)];simp)]
     ·simp only [d1,if_false]
      by_cases d2:ZT.Dir p=2
      ·simp only [d2,if_true]
       constructor
       ·intro hh
        rw [if_pos (Ye hh.2),XK (by omega)]
       ·intro hh
        rw [if_neg (by rw [ZR (fun q=>hh ⟨by omega,q⟩)];simp)]
      ·simp only [d2,if_false]
       exact ⟨fun hh=>by have:=hh.1;omega,fun _=>trivial⟩)
    (fun _=>by
     simp only [VU,Int.lt_irrefl,if_false,List.take_length]
     rw [VR (show Len _ by show List.length _≤_;rw [ZiP];omega) (fun n=>!decide (n=1)) (fun n _=>rfl),Option.bind_some]
     congr 3
     refine (Zm2 ?_).symm
     rw [Bool.not_eq_true',List.any_eq_false]
     simp only [Bool.not_eq_true',Bool.not_eq_false,decide_eq_true_eq,decide_eq_false_iff_not,Classical.not_not]
     exact Iff.rfl)
   refine (show Zv (fun v=>VU d v.1 v.2.1) ((0:Int),ZpF (Zb.ZI d).length ((Zb.Instances d).map XW),())=_ from (by simpa using this)).trans ?_
   by_cases hP:ZfU (Zb.ZK d) (fun _ p=>ZlO d p)
   ·rw [YX hP];congr 2;exact YI ⟨fun q=>⟨hP,q⟩,fun q=>q.2⟩
   ·rw [YM hP,ZR (fun q=>hP q.1)])
 rw [Zeu] at this
 refine Eq.trans ?_ this
 rw [List.take_zero,List.map_nil,Zti]
 rfl
end Go.Proofs.YtoefbkmllkpkkaaGreatDoor
/-
  Plain laws: designs by the reference; places.
-/
namespace Go.Proofs.YtoefbkmllkpkkaaGreatDoor
set_option linter.unusedVariables false
set_option linter.unusedSimpArgs false
open Go Go.Sx
theorem Zpy (a:Zp) (d:Zb) (ha:sm YN a) (hd:sm Yr d):Zgh a d=some (tr (ZfU (Zb.Instances d) (fun _ x=>ZlF a d x)∧ZfU (Zb.ZK d) (fun _ p=>ZlO d p))):=by
 obtain ⟨h1,h2,h3⟩:=Zck hd
 have s1:=Zo h1
 have s2:=Zo h2
 have s3:=Zo h3
 have sa:=Zo (ZrA ha)
 have e1:IntKind.i64.wrap (((Zb.ZI d).length:Int)-1)=((Zb.ZI d).length:Int)-1:=Qc (by omega) (by omega)
 have e2:IntKind.i64.wrap (((Zp.Cells a).length:Int)-1)=((Zp.Cells a).length:Int)-1:=Qc (by omega) (by omega)
 unfold Zgh
 rw [QA (YT h1) (fun _ x=>ZlF a d x) (bad:=false) (good:=tr (ZfU (Zb.ZK d) (fun _ p=>ZlO d p)))
  (fun k x hx hk _=>by
   have hsx:=Jd h1 hx
   simp only [ZdB,show (k:Int)<((Zb.Instances d).length:Int) from by omega,if_true,Zt,hx,Option.bind_some,Ql,e2]
   by_cases hc:0≤Ze.Cell x∧Ze.Cell x≤((Zp.Cells a).length:Int)-1
   ·obtain ⟨c,hc1,hc2⟩:=Zsq hc.1 (show Ze.Cell x<((Zp.Cells a).length:Int) by omega)
    rw [if_pos (Ye hc),hc1,Option.bind_some]
    by_cases hp:((Ze.ZI x).length:Int)=((Zm.YC c).length:Int)
    ·rw [if_pos hp,QA (YT (ZmQ hsx).2) (fun _ n=>Zbw d n) (bad:=.inr false) (good:=.inl (IntKind.i64.wrap ((k:Int)+1),()))
      (fun j n hn hj _=>by
       simp only [Zdp,show (j:Int)<((Ze.ZI x).length:Int) from by omega,if_true,Zt,hn,Option.bind_some,Ql,e1]
       constructor
       ·intro hh;exact if_pos (Ye hh)
       ·intro hh;exact if_neg (fun q=>hh ((Xa _).1 q)))
      (fun _=>by simp only [Zdp,Int.lt_irrefl,if_false])]
     constructor
     ·intro hh;rw [YX (JB.2 hh.2.2)]
     ·intro hh;rw [YM (fun q=>hh ⟨hc,⟨c,hc2,by omega⟩,JB.1 q⟩)]
    ·rw [if_neg hp]
     refine ⟨fun hh=>?_,fun _=>rfl⟩
     obtain ⟨_,⟨c',q1,q2⟩,_⟩:=hh
     rw [hc2] at q1;injection q1 with q1;subst q1
     exact absurd (by omega) hp
   ·rw [if_neg (by rw [ZR hc];simp)]
    exact ⟨fun hh=>absurd hh.1 hc,fun _=>rfl⟩)
  (fun _=>by
   simp only [ZdB,Int.lt_irrefl,if_false]
   rw [QA (YT h2) (fun _ p=>ZlO d p) (bad:=.inr false) (good:=.inr true)
    (fun k p hx hk _=>by
     simp only [ZdD,show (k:Int)<((Zb.ZK d).length:Int) from by omega,if_true,Zt,hx,Option.bind_some,Ql,e1]
     by_cases hc:1≤ZT.Dir p∧ZT.Dir p≤2
     ·rw [if_pos (Ye hc)]
      constructor
      ·intro hh;exact if_pos (Ye hh.2)
      ·intro hh;exact if_neg (fun q=>hh ⟨hc,(Xa _).1 q⟩)
     ·rw [if_neg (by rw [ZR hc];simp)]
      exact ⟨fun hh=>absurd hh.1 hc,fun _=>rfl⟩)
    (fun _=>by simp only [ZdD,Int.lt_irrefl,if_false])]
   congr 1
   by_cases hh:ZfU (Zb.ZK d) (fun _ p=>ZlO d p)
   ·rw [YX hh,Ye hh]
   ·rw [YM hh,ZR hh])]
 rw [Zeu]
theorem Zv8 {α:Type} {l:List α} {f:α→List UInt8} (h:∀ x∈l,(f x).length≤4611686018427387904):∀ s∈l.map f,s.length≤4611686018427387904:=by
 intro s hs
 obtain ⟨x,hx,rfl⟩:=List.mem_map.1 hs
 exact h x hx
theorem Zpk (a:Zp) (d:Zb) (ha:sm YN a) (hd:sm Yr d):Zgk a d=some (tr (Qm a d)):=by
 obtain ⟨h1,h2,h3⟩:=Zck hd
 have s1:=Zo h1
 have s2:=Zo h2
 have s3:=Zo h3
 unfold Zgk
 refine Vm (YF (Zn9 a ha) (fun hL=>Zg6 (fun a1=>Zg6 (fun a2=>Zg6 (fun a3=>YF (Zpy a d ha hd) (fun hP=>?_))))))
  (P:=Zvu a∧¬(14:Int)<((Zb.Instances d).length:Int)∧¬(30:Int)<((Zb.ZI d).length:Int)∧¬(8:Int)<((Zb.ZK d).length:Int)∧(ZfU (Zb.Instances d) (fun _ x=>ZlF a d x)∧ZfU (Zb.ZK d) (fun _ p=>ZlO d p))∧(Qd (ZaE d) (ZaE d).length∧Qd (ZcZ d) (ZcZ d).length∧Qd (Zb.ZI d) (Zb.ZI d).length)∧Zii d) ?_
 ·have hi:(ZaE d).length=(Zb.Instances d).length:=by simp [ZaE]
  have hp:(ZcZ d).length=(Zb.ZK d).length:=by simp [ZcZ]
  refine gather (l:=Zb.Instances d) s1 Ze.Name (fun k x o hx hk ho=>?_) ?_
  ·simp only [Zdt,hk,if_true,Zt,hx,Option.bind_some]
  simp only [Zdt,Int.lt_irrefl,if_false]
  refine gather (l:=Zb.ZK d) s2 ZT.Name (fun k x o hx hk ho=>?_) ?_
  ·simp only [Zdo,hk,if_true,Zt,hx,Option.bind_some]
  simp only [Zdo,Int.lt_irrefl,if_false]
  rw [show List.map ZT.Name (Zb.ZK d)=ZcZ d from rfl,show List.map Ze.Name (Zb.Instances d)=ZaE d from rfl]
  simp only [ZfT (ZaE d) (by omega) (Zv8 (fun x hx=>ZgU (ZmQ (Zr9 h1 hx)).1)),ZfT (ZcZ d) (by omega) (Zv8 (fun x hx=>ZgU (ZA1 (Zr9 h2 hx)))),ZfT (Zb.ZI d) (by omega) (fun s hs=>ZgU (Zr9 h3 hs)),Option.bind_some]
  by_cases n1:Qd (ZaE d) (ZaE d).length
  ·rw [if_pos (Ye n1)]
   by_cases n2:Qd (ZcZ d) (ZcZ d).length
   ·rw [if_pos (Ye n2)]
    by_cases n3:Qd (Zb.ZI d) (Zb.ZI d).length
    ·rw [if_pos (Ye n3),Zj (by omega),Zj (by omega),Zj (by omega),Zj (by omega)]
     have:=Yo (l:=Zb.Instances d) (ρ:=(List (List UInt8))×Int×Unit ⊕ ((List (List UInt8))×Int×Unit ⊕ Bool)) (fun k=>((k:Int),ZpF (Zb.ZI d).length (((Zb.Instances d).take k).map XW),())) (step:=fun v=>VN d v.1 v.2.1) (good:=.inr (.inr (tr (Zii d))))
      (fun k x hx hk=>by
       have hsx:=Jd h1 hx
       obtain ⟨e1,e2⟩:=(hP.1 k x hx).last hL (Zo (ZmQ hsx).2)
       simp only [VN,show (k:Int)<((Zb.Instances d).length:Int) from by omega,if_true,Zt,hx,Option.bind_some]
       rw [e1,Option.bind_some,Zke e2.1 (by have:=e2.2;omega) (by simp only [List.length_map,List.length_take];omega) (F:=fun o=>some (Sum.inl (IntKind.i64.wrap ((k:Int)+1),o,()))),Z6 hx,List.map_append,XK (by omega)]
       rfl)
      (by
       simp only [VN,Int.lt_irrefl,if_false,List.take_length]
       have:=Yo (l:=Zb.ZK d) (ρ:=Int×List Int×Unit ⊕ ((List (List UInt8))×Int×Unit ⊕ ((List (List UInt8))×Int×Unit ⊕ Bool))) (fun k=>((k:Int),ZpF (Zb.ZI d).length ((Zb.Instances d).map XW++(((Zb.ZK d).take k).filter (fun p=>decide (ZT.Dir p=1))).map ZT.Net),())) (step:=fun v=>VT d v.1 v.2.1) (good:=.inr (.inr (.inr (tr (Zii d)))))
        (fun k p hx hk=>by
         have hl:=Zx1 (d:=d) k (Zb.Instances d).length
         rw [List.take_length] at hl
         have hpo:=hP.2 k p hx
         simp only [VT,show (k:Int)<((Zb.ZK d).length:Int) from by omega,if_true,Zt,hx,Option.bind_some,Zwc hx]
         by_cases d1:ZT.Dir p=1
         ·simp only [d1,if_true]
          rw [Zke hpo.2.1 (by have:=hpo.2.2;omega) (by omega) (F:=fun o=>some (Sum.inl (IntKind.i64.wrap ((k:Int)+1),o,()))),XK (by omega)]
         ·simp only [d1,if_false]
          rw [XK (by omega)])
        (by
         simp only [VT,Int.lt_irrefl,if_false,List.take_length]
         rw [QA (l:=ZpF (Zb.ZI d).length ((Zb.Instances d).map XW++((Zb.ZK d).filter (fun p=>decide (ZT.Dir p=1))).map ZT.Net)) (show List.length _≤_ by rw [ZiP];omega) (fun _ x=>x=1) (bad:=.inr (.inr (.inr (.inr false)))) (good:=.inr (.inr (.inr (.inr true))))
          (fun k x hx hk _=>by
           simp only [Zdy,show (k:Int)<((ZpF (Zb.ZI d).length ((Zb.Instances d).map XW++((Zb.ZK d).filter (fun p=>decide (ZT.Dir p=1))).map ZT.Net)).length:Int) from by omega,if_true,Zt,hx,Option.bind_some]
           constructor
           ·intro hh;rw [if_pos hh]
           ·intro hh;rw [if_neg hh])
          (fun _=>by simp only [Zdy,Int.lt_irrefl,if_false])]
         congr 1
         have e:ZfU (ZpF (Zb.ZI d).length ((Zb.Instances d).map XW++((Zb.ZK d).filter (fun p=>decide (ZT.Dir p=1))).map ZT.Net)) (fun _ x=>x=1)↔Zii d:=by
          rw [JB];exact Iff.rfl
         by_cases hh:Zii d
         ·rw [YX (e.2 hh),Ye hh]
         ·rw [YM (fun q=>hh (e.1 q)),ZR hh])
       refine (show Zv (fun v=>VT d v.1 v.2.1) ((0:Int),ZpF (Zb.ZI d).length ((Zb.Instances d).map XW),())=_ from (by simpa using this)).trans ?_
       rfl)
     rw [List.take_zero,List.map_nil,Zti] at this
     refine (show Zv (fun v=>VN d v.1 v.2.1) ((0:Int),List.replicate (Zb.ZI d).length 0,())=_ from this).trans ?_
     congr 3
     exact YI ⟨fun q=>⟨⟨n1,n2,n3⟩,q⟩,fun q=>q.2⟩
    ·rw [if_neg (by rw [ZR n3];simp),ZR (fun q=>n3 q.1.2.2)]
   ·rw [if_neg (by rw [ZR n2];simp),ZR (fun q=>n2 q.1.2.1)]
  ·rw [if_neg (by rw [ZR n1];simp),ZR (fun q=>n1 q.1.1)]
 ·unfold Qm ZmN
  rw [JB,JB]
  constructor
  ·rintro ⟨q1,q2,q3,q4,⟨q5,q6⟩,⟨q7,q8,q9⟩,q10⟩
   exact ⟨q1,⟨by omega,by omega,by omega,q7,q9,q8⟩,q5,q6,q10⟩
  ·rintro ⟨q1,⟨q2,q3,q4,q7,q9,q8⟩,q5,q6,q10⟩
   exact ⟨q1,by omega,by omega,by omega,⟨q5,q6⟩,⟨q7,q8,q9⟩,q10⟩
end Go.Proofs.YtoefbkmllkpkkaaGreatDoor
/-
  Plain laws: places, sinks, wires.
-/
namespace Go.Proofs.YtoefbkmllkpkkaaGreatDoor
set_option linter.unusedVariables false
set_option linter.unusedSimpArgs false
open Go Go.Sx
def cat {α β:Type} (f:Nat→α→List β):Nat→List α→List β
 | _,[]=>[]
 | k,x::r=>f k x++cat f (k+1) r
theorem Ze6 {α β:Type} (f:Nat→α→List β):∀ (l r:List α) (m:Nat),cat f m (l++r)=cat f m l++cat f (m+l.length) r
 | [],r,m=>by simp [cat]
 | x::l,r,m=>by
  simp only [List.cons_append,cat,List.length_cons,Ze6 f l r,List.append_assoc]
  rw [show m+1+l.length=m+(l.length+1) by omega]
theorem Zht {α β:Type} {f:Nat→α→List β} {l:List α} {k:Nat} {x:α} (hx:l[k]?=some x):cat f 0 (l.take (k+1))=cat f 0 (l.take k)++f k x:=by
 have hk:=(List.getElem?_eq_some_iff.1 hx).1
 rw [Z6 hx,Ze6]
 simp only [cat,Nat.zero_add,List.length_take,List.append_nil]
 rw [show min k l.length=k by omega]
theorem ZcW {α β:Type} {f:Nat→α→List β} {y:β}:∀ {l:List α} {m:Nat},y∈cat f m l↔∃ (k:Nat) (x:α),l[k]?=some x∧y∈f (m+k) x
 | [],m=>by simp [cat]
 | z::r,m=>by
  simp only [cat,List.mem_append,ZcW (l:=r)]
  constructor
  ·rintro (h | ⟨k,x,h1,h2⟩)
   ·exact ⟨0,z,rfl,h⟩
   ·exact ⟨k+1,x,by simpa using h1,by rw [show m+(k+1)=m+1+k by omega];exact h2⟩
  ·rintro ⟨k,x,h1,h2⟩
   cases k with
   | zero=>simp at h1;subst h1;exact .inl h2
   | succ k=>exact .inr ⟨k,x,by simpa using h1,by rw [show m+1+k=m+(k+1) by omega];exact h2⟩
theorem Zmg {α β:Type} {f:Nat→α→List β} {c:Nat}:∀ {l:List α} {m:Nat},(∀ k,∀ x∈l,(f k x).length≤c)→(cat f m l).length≤c*l.length
 | [],m,_=>by simp [cat]
 | z::r,m,h=>by
  simp only [cat,List.length_append,List.length_cons]
  have h1:=h m z (by simp)
  have h2:=Zmg (f:=f) (l:=r) (m:=m+1) (fun k x hx=>h k x (by simp [hx]))
  rw [Nat.mul_add];omega
theorem Zbp {α β ρ:Type} {l:List α} (f:Nat→α→List β) (acc:List β) {step:List β×Int×Unit→Option ((List β×Int×Unit) ⊕ ρ)} {good:ρ}
  (hs:∀ (k:Nat) (x:α),l[k]?=some x→k<l.length→step (acc++cat f 0 (l.take k),(k:Int),())=some (.inl ((acc++cat f 0 (l.take k))++f k x,((k+1:Nat):Int),())))
  (hx:step (acc++cat f 0 l,(l.length:Int),())=some (.inr good)):Zv step (acc,(0:Int),())=some good:=by
 have:=Yo (l:=l) (ρ:=ρ) (fun k=>(acc++cat f 0 (l.take k),(k:Int),())) (step:=step) (good:=good) (fun k x hx hk=>by
  rw [hs k x hx hk,Zht hx,List.append_assoc]) (by simp only [List.take_length];exact hx)
 simpa [cat] using this
abbrev Pl:=Int×Int×Int×Bool×Unit
def Xf (i:Nat) (x:Ze):List Pl:=cat (fun j n=>[((i:Int),(j:Int),n,decide ((j:Int)=IntKind.i64.wrap (((Ze.ZI x).length:Int)-1)),())]) 0 (Ze.ZI x)
def ZcI (j:Nat) (p:ZT):List Pl:=[((-1:Int),(j:Int),ZT.Net p,decide (ZT.Dir p=1),())]
def places (d:Zb):List Pl:=cat Xf 0 (Zb.Instances d)++cat ZcI 0 (Zb.ZK d)
theorem ZwP (i:Nat) (x:Ze):(Xf i x).length≤(Ze.ZI x).length:=by
 have:=Zmg (f:=fun j n=>[((i:Int),(j:Int),n,decide ((j:Int)=IntKind.i64.wrap (((Ze.ZI x).length:Int)-1)),())]) (c:=1) (l:=Ze.ZI x) (m:=0) (fun _ _ _=>by simp)
 simpa [Xf] using this
structure Few (d:Zb):Prop where
 insts:(Zb.Instances d).length≤14
 ports:(Zb.ZK d).length≤8
 nets:∀ x∈Zb.Instances d,(Ze.ZI x).length≤5
theorem Qm.few {a:Zp} {d:Zb} (h:Qm a d):Few d:=by
 refine ⟨h.2.1.1,h.2.1.2.2.1,fun x hx=>?_⟩
 obtain ⟨_,⟨c,hc,hn⟩,_⟩:=h.2.2.1 x hx
 have:=(h.1.2.1 c (List.mem_of_getElem? hc)).2.1.2.1
 omega
theorem ZfL {d:Zb} (h:Few d) (k:Nat):(cat Xf 0 ((Zb.Instances d).take k)).length≤70:=by
 have:=Zmg (f:=Xf) (c:=5) (l:=(Zb.Instances d).take k) (m:=0) (fun i x hx=>by
  have h1:=ZwP i x
  have h2:=h.nets x (List.mem_of_mem_take hx)
  omega)
 have h1:=h.insts
 rw [List.length_take] at this
 omega
theorem Zj6 {d:Zb} (h:Few d) (k:Nat):(cat ZcI 0 ((Zb.ZK d).take k)).length≤8:=by
 have:=Zmg (f:=ZcI) (c:=1) (l:=(Zb.ZK d).take k) (m:=0) (fun i x hx=>by simp [ZcI])
 have h1:=h.ports
 rw [List.length_take] at this
 omega
theorem Y7 {d:Zb} (h:Few d):(places d).length≤78:=by
 have h1:=ZfL h (Zb.Instances d).length
 have h2:=Zj6 h (Zb.ZK d).length
 rw [List.take_length] at h1 h2
 unfold places
 rw [List.length_append];omega
theorem Yl (d:Zb) (h:Few d):Yk d=some (places d):=by
 have h1:=h.insts
 have h2:=h.ports
 unfold Yk
 refine Zbp (l:=Zb.Instances d) Xf [] (fun k x hx hk=>?_) ?_
 ·have hn:=h.nets x (List.mem_of_getElem? hx)
  have hl:=ZfL h k
  simp only [List.nil_append,Zan,show (k:Int)<((Zb.Instances d).length:Int) from by omega,if_true,Zt,hx,Option.bind_some]
  refine Zbp (l:=Ze.ZI x) (fun j n=>[((k:Int),(j:Int),n,decide ((j:Int)=IntKind.i64.wrap (((Ze.ZI x).length:Int)-1)),())]) _ (fun j n hj hk'=>?_) ?_
  ·have hl2:=Zmg (f:=fun j n=>[((k:Int),(j:Int),n,decide ((j:Int)=IntKind.i64.wrap (((Ze.ZI x).length:Int)-1)),())]) (c:=1) (l:=(Ze.ZI x).take j) (m:=0) (fun _ _ _=>by simp)
   rw [List.length_take] at hl2
   simp only [Zaq,show (j:Int)<((Ze.ZI x).length:Int) from by omega,if_true,Zt,hj,Option.bind_some]
   rw [Zj (by rw [List.length_append,List.length_singleton];omega),XK (by omega)]
  ·simp only [Zaq,Int.lt_irrefl,if_false]
   rw [XK (by omega)];rfl
 ·have hl:=ZfL h (Zb.Instances d).length
  rw [List.take_length] at hl
  simp only [List.nil_append,Zan,Int.lt_irrefl,if_false]
  refine Zbp (l:=Zb.ZK d) ZcI _ (fun j p hj hk'=>?_) ?_
  ·have hl2:=Zj6 h j
   simp only [Zau,show (j:Int)<((Zb.ZK d).length:Int) from by omega,if_true,Zt,hj,Option.bind_some]
   rw [Zj (by rw [List.length_append,List.length_singleton];omega),XK (by omega)];rfl
  ·simp only [Zau,Int.lt_irrefl,if_false];rfl
theorem Xe (d:Zb) (h:Few d):Xg d=some (places d):=by
 have h1:=h.insts
 have h2:=h.ports
 unfold Xg
 refine Zbp (l:=Zb.Instances d) Xf [] (fun k x hx hk=>?_) ?_
 ·have hn:=h.nets x (List.mem_of_getElem? hx)
  have hl:=ZfL h k
  simp only [List.nil_append,ZcU,show (k:Int)<((Zb.Instances d).length:Int) from by omega,if_true,Zt,hx,Option.bind_some]
  refine Zbp (l:=Ze.ZI x) (fun j n=>[((k:Int),(j:Int),n,decide ((j:Int)=IntKind.i64.wrap (((Ze.ZI x).length:Int)-1)),())]) _ (fun j n hj hk'=>?_) ?_
  ·have hl2:=Zmg (f:=fun j n=>[((k:Int),(j:Int),n,decide ((j:Int)=IntKind.i64.wrap (((Ze.ZI x).length:Int)-1)),())]) (c:=1) (l:=(Ze.ZI x).take j) (m:=0) (fun _ _ _=>by simp)
   rw [List.length_take] at hl2
   simp only [ZcP,show (j:Int)<((Ze.ZI x).length:Int) from by omega,if_true,Zt,hj,Option.bind_some]
   rw [Zj (by rw [List.length_append,List.length_singleton];omega),XK (by omega)]
  ·simp only [ZcP,Int.lt_irrefl,if_false]
   rw [XK (by omega)];rfl
 ·have hl:=ZfL h (Zb.Instances d).length
  rw [List.take_length] at hl
  simp only [List.nil_append,ZcU,Int.lt_irrefl,if_false]
  refine Zbp (l:=Zb.ZK d) ZcI _ (fun j p hj hk'=>?_) ?_
  ·have hl2:=Zj6 h j
   simp only [ZcJ,show (j:Int)<((Zb.ZK d).length:Int) from by omega,if_true,Zt,hj,Option.bind_some]
   rw [Zj (by rw [List.length_append,List.length_singleton];omega),XK (by omega)];rfl
  ·simp only [ZcJ,Int.lt_irrefl,if_false];rfl
def ZaB (net:Int) (i:Nat) (x:Pl):List Int:=if x.2.2.1=net then (if x.2.2.2.1=true then [] else [(i:Int)]) else []
def sinks (d:Zb) (net:Int):List Int:=cat (ZaB net) 0 (places d)
theorem ZfJ (net:Int) (l:List Pl) (m:Nat):(cat (ZaB net) m l).length≤l.length:=by
 have:=Zmg (f:=ZaB net) (c:=1) (l:=l) (m:=m) (fun i x _=>by
  unfold ZaB;split
  ·split<;>simp
  ·simp)
 omega
theorem Zf4 (d:Zb) (net:Int) (h:Few d):Zag d net=some (sinks d net):=by
 have hp:=Y7 h
 unfold Zag
 rw [Yl d h,Option.bind_some]
 refine Zbp (l:=places d) (ZaB net) [] (fun k x hx hk=>?_) ?_
 ·have hl:=ZfJ net ((places d).take k) 0
  rw [List.length_take] at hl
  simp only [List.nil_append,Za6,show (k:Int)<((places d).length:Int) from by omega,if_true,Zt,hx,Option.bind_some,ZaB,XK (show k≤1048576 by omega)]
  split
  ·split
   ·rw [List.append_nil]
   ·rw [Zj (by
     show (List.length _+1)*8≤_
     have:(cat (ZaB net) 0 ((places d).take k)).length≤78:=by omega
     omega)]
  ·rw [List.append_nil]
 ·simp only [List.nil_append,Za6,Int.lt_irrefl,if_false];rfl
theorem Jm (d:Zb) (net:Int) (h:Few d):QU d net=some (sinks d net):=by
 have hp:=Y7 h
 unfold QU
 rw [Xe d h,Option.bind_some]
 refine Zbp (l:=places d) (ZaB net) [] (fun k x hx hk=>?_) ?_
 ·have hl:=ZfJ net ((places d).take k) 0
  rw [List.length_take] at hl
  simp only [List.nil_append,Zdv,show (k:Int)<((places d).length:Int) from by omega,if_true,Zt,hx,Option.bind_some,ZaB,XK (show k≤1048576 by omega)]
  split
  ·split
   ·rw [List.append_nil]
   ·rw [Zj (by
     show (List.length _+1)*8≤_
     have:(cat (ZaB net) 0 ((places d).take k)).length≤78:=by omega
     omega)]
  ·rw [List.append_nil]
 ·simp only [List.nil_append,Zdv,Int.lt_irrefl,if_false];rfl
theorem Zrg (net:Int):∀ (l:List Pl) (m:Nat),(cat (ZaB net) m l).length=((l.filter (fun x=>!x.2.2.2.1)).map (fun x=>x.2.2.1)).countP (fun y=>decide (y=net))
 | [],m=>by simp [cat]
 | x::r,m=>by
  simp only [cat,List.length_append,Zrg net r,ZaB]
  obtain ⟨a,b,n,dr,u⟩:=x
  cases dr
  ·by_cases e:n=net
   ·simp [e,Nat.add_comm]
   ·simp [e]
  ·simp
end Go.Proofs.YtoefbkmllkpkkaaGreatDoor
/-
  Plain laws: wires, blocks.
-/
namespace Go.Proofs.YtoefbkmllkpkkaaGreatDoor
set_option linter.unusedVariables false
set_option linter.unusedSimpArgs false
open Go Go.Sx
theorem Zlq {w:Zr} (h:sm XZ w):sm (.sl (.int .i64)) (Zr.Parent w)∧sm (.sl (.int .i64)) (Zr.Res w)∧sm (.sl (.int .i64)) (Zr.Cap w)∧sm (.sl (.int .i64)) (Zr.ZfR w):=by
 refine ⟨?_,?_,?_,?_⟩
 all_goals first | exact h.1 | exact h.2.1 | exact h.2.2.1 | exact h.2.2.2.1
theorem ZaI {b:Za} (h:sm YB b):sm YN (Za.Library b)∧sm Yr (Za.Design b)∧sm (.sl XZ) (Za.ZC b):=by
 refine ⟨?_,?_,?_⟩
 all_goals first | exact h.1 | exact h.2.1 | exact h.2.2.1 | exact h.2.2.2.1
def Zqm (w:Zr) (k:Nat) (x:Int):Prop:=(k=0→x=-1∧(Zr.Res w)[0]?=some 0)∧(0<k→0≤x∧x≤(k:Int)-1)
def Zce (w:Zr) (s:Int):Prop :=
 (1≤(Zr.Parent w).length∧(Zr.Parent w).length≤8)∧(Zr.Res w).length=(Zr.Parent w).length∧(Zr.Cap w).length=(Zr.Parent w).length∧((Zr.ZfR w).length:Int)=s∧
 ZfU (Zr.Parent w) (Zqm w)∧ZjE (Zr.Res w) 0 1000∧ZjE (Zr.Cap w) 0 500∧ZjE (Zr.ZfR w) 0 (((Zr.Parent w).length:Int)-1)
theorem ZhR (l:List Int) (lo hi:Int) (hl:l.length≤1048576):XV l lo hi=some (tr (ZjE l lo hi)):=by
 rw [Zcq l lo hi (by omega)]
 exact JW (Znd _ _ _)
theorem ZmG (w:Zr) (hw:sm XZ w) (h1:1≤(Zr.Parent w).length) (h2:(Zr.Res w).length=(Zr.Parent w).length):Zdf w=some (tr (ZfU (Zr.Parent w) (Zqm w))):=by
 obtain ⟨a1,a2,a3,a4⟩:=Zlq hw
 have s1:=Zo a1
 unfold Zdf
 have hr:(Zr.Res w)[0]?=some (Zr.Res w)[0]:=List.getElem?_eq_getElem (by omega)
 rw [QA (YT a1) (Zqm w) (bad:=false) (good:=true)
  (fun k x hx hk _=>by
   simp only [Zbu,show (k:Int)<((Zr.Parent w).length:Int) from by omega,if_true,Zt,hx,Option.bind_some]
   unfold Zqm
   by_cases hk0:k=0
   ·subst hk0
    rw [if_pos (by rfl),show atI (Zr.Res w) 0=some (Zr.Res w)[0] from hr,hr]
    simp only [Option.bind_some,Option.some.injEq]
    rw [if_neg (show ¬(0:Int)<((0:Nat):Int) by omega)]
    constructor
    ·intro hh
     obtain ⟨q1,q2⟩:=hh.1 trivial
     rw [if_pos q1,if_pos q2]
    ·intro hh
     by_cases q1:x=-1
     ·rw [if_pos q1,if_neg (fun q2=>hh ⟨fun _=>⟨q1,q2⟩,fun h=>by omega⟩)]
     ·rw [if_neg q1]
   ·rw [if_neg (by omega),if_pos (by omega),XD,Option.bind_some,Qc (by omega) (by omega)]
    constructor
    ·intro hh;rw [if_pos (Ye (hh.2 (by omega)))]
    ·intro hh;rw [if_neg (fun q=>hh ⟨fun h=>absurd h hk0,fun _=>(Xa _).1 q⟩)])
  (fun _=>by simp only [Zbu,Int.lt_irrefl,if_false]),Zm3]
theorem ZlP (w:Zr) (s:Int) (hw:sm XZ w):ZgQ w s=some (tr (Zce w s)):=by
 obtain ⟨a1,a2,a3,a4⟩:=Zlq hw
 have s1:=Zo a1
 have s2:=Zo a2
 have s3:=Zo a3
 have s4:=Zo a4
 unfold ZgQ
 simp only [Vj,Option.bind_some,Qc (show (-9223372036854775808:Int)≤((Zr.Parent w).length:Int)-1 by omega) (by omega)]
 refine Vm (YF (XD _ _ _) (fun q1=>Yz (fun q2=>Yz (fun q3=>YF (ZmG w hw (by omega) (by omega)) (fun q4=>YF (ZhR _ _ _ s2) (fun q5=>YF (ZhR _ _ _ s3) (fun q6=>Yz (fun q7=>JO (ZhR _ _ _ s4))))))))) ?_
 unfold Zce
 constructor
 ·rintro ⟨q1,q2,q3,q4,q5,q6,q7,q8⟩
  exact ⟨⟨by omega,by omega⟩,by omega,by omega,q7,q4,q5,q6,q8⟩
 ·rintro ⟨q1,q2,q3,q7,q4,q5,q6,q8⟩
  exact ⟨by omega,by omega,by omega,q4,q5,q6,q7,q8⟩
theorem Zwy {l:List Int} {lo hi:Int}:ZjE l lo hi↔∀ (k:Nat) (x:Int),l[k]?=some x→lo≤x∧x≤hi:=by
 unfold ZjE
 constructor
 ·intro h k x hx;exact h x (List.mem_of_getElem? hx)
 ·intro h x hx
  obtain ⟨k,hk⟩:=List.mem_iff_getElem?.1 hx
  exact h k x hk
theorem ZlA (w:Zr) (s:Int) (hw:sm XZ w):ZgI w s=some (tr (Zce w s)):=by
 obtain ⟨a1,a2,a3,a4⟩:=Zlq hw
 have s1:=Zo a1
 have s2:=Zo a2
 have s3:=Zo a3
 have s4:=Zo a4
 have e1:IntKind.i64.wrap (((Zr.Parent w).length:Int)-1)=((Zr.Parent w).length:Int)-1:=Qc (by omega) (by omega)
 unfold ZgI
 refine Vm (Zg6 (fun q1=>Zg6 (fun q2=>Yz (fun q3=>Yz (fun q4=>Yz (fun q5=>?_)))))) ?_
  (P:=¬((Zr.Parent w).length:Int)<1∧¬(8:Int)<((Zr.Parent w).length:Int)∧((Zr.Res w).length:Int)=((Zr.Parent w).length:Int)∧((Zr.Cap w).length:Int)=((Zr.Parent w).length:Int)∧((Zr.ZfR w).length:Int)=s∧
   (ZfU (Zr.Parent w) (fun k x=>(∀ c,(Zr.Cap w)[k]?=some c→0≤c∧c≤500)∧(∀ r,(Zr.Res w)[k]?=some r→0≤r∧r≤1000)∧Zqm w k x)∧ZjE (Zr.ZfR w) 0 (((Zr.Parent w).length:Int)-1)))
 ·rw [QA (YT a1) (fun k x=>(∀ c,(Zr.Cap w)[k]?=some c→0≤c∧c≤500)∧(∀ r,(Zr.Res w)[k]?=some r→0≤r∧r≤1000)∧Zqm w k x) (bad:=false) (good:=tr (ZjE (Zr.ZfR w) 0 (((Zr.Parent w).length:Int)-1)))
   (fun k x hx hk _=>by
    have hc:(Zr.Cap w)[k]?=some (Zr.Cap w)[k]:=List.getElem?_eq_getElem (by omega)
    have hr:(Zr.Res w)[k]?=some (Zr.Res w)[k]:=List.getElem?_eq_getElem (by omega)
    simp only [ZeR,show (k:Int)<((Zr.Parent w).length:Int) from by omega,if_true,Zt,hc,hr,hx,Option.bind_some,Ql,Option.some.injEq,forall_eq']
    generalize (Zr.Cap w)[k]=c at hc
    generalize (Zr.Res w)[k]=r at hr
    by_cases qc:0≤c∧c≤500
    ·rw [if_pos (Ye qc)]
     by_cases qr:0≤r∧r≤1000
     ·rw [if_pos (Ye qr)]
      unfold Zqm
      by_cases hk0:k=0
      ·subst hk0
       rw [if_pos (by rfl),hr]
       simp only [Option.some.injEq]
       rw [if_neg (show ¬(0:Int)<((0:Nat):Int) by omega)]
       constructor
       ·rintro ⟨_,_,hh⟩
        obtain ⟨q1,q2⟩:=hh.1 trivial
        rw [if_pos q1,if_pos q2]
       ·intro hh
        by_cases q1:x=-1
        ·rw [if_pos q1,if_neg (fun q2=>hh ⟨qc,qr,fun _=>⟨q1,q2⟩,fun h=>by omega⟩)]
        ·rw [if_neg q1]
      ·rw [if_neg (by omega),if_pos (by omega),Qc (show (-9223372036854775808:Int)≤(k:Int)-1 by omega) (by omega)]
       constructor
       ·intro hh;rw [if_pos (Ye (hh.2.2.2 (by omega)))]
       ·intro hh;rw [if_neg (fun q=>hh ⟨qc,qr,fun h=>absurd h hk0,fun _=>(Xa _).1 q⟩)]
     ·rw [if_neg (fun q=>qr ((Xa _).1 q))]
      exact ⟨fun hh=>absurd hh.2.1 qr,fun _=>rfl⟩
    ·rw [if_neg (fun q=>qc ((Xa _).1 q))]
     exact ⟨fun hh=>absurd hh.1 qc,fun _=>rfl⟩)
   (fun _=>by
    simp only [ZeR,Int.lt_irrefl,if_false]
    rw [QA (YT a4) (fun _ x=>0≤x∧x≤((Zr.Parent w).length:Int)-1) (bad:=.inr false) (good:=.inr true)
     (fun k x hx hk _=>by
      simp only [ZeZ,show (k:Int)<((Zr.ZfR w).length:Int) from by omega,if_true,Zt,hx,Option.bind_some,Ql,e1]
      constructor
      ·intro hh;rw [if_pos (Ye hh)]
      ·intro hh;rw [if_neg (fun q=>hh ((Xa _).1 q))])
     (fun _=>by simp only [ZeZ,Int.lt_irrefl,if_false])]
    congr 1
    have e:ZfU (Zr.ZfR w) (fun _ x=>0≤x∧x≤((Zr.Parent w).length:Int)-1)↔ZjE (Zr.ZfR w) 0 (((Zr.Parent w).length:Int)-1):=JB
    by_cases hh:ZjE (Zr.ZfR w) 0 (((Zr.Parent w).length:Int)-1)
    ·rw [YX (e.2 hh),Ye hh]
    ·rw [YM (fun q=>hh (e.1 q)),ZR hh]),Zeu]
 ·unfold Zce
  rw [Zwy (l:=Zr.Res w),Zwy (l:=Zr.Cap w)]
  constructor
  ·rintro ⟨q1,q2,q3,q4,q5,q6,q7⟩
   refine ⟨⟨by omega,by omega⟩,by omega,by omega,q5,fun k x hx=>(q6 k x hx).2.2,fun k r hr=>?_,fun k c hc=>?_,q7⟩
   ·have hk:=(List.getElem?_eq_some_iff.1 hr).1
    exact (q6 k _ (List.getElem?_eq_getElem (by omega))).2.1 r hr
   ·have hk:=(List.getElem?_eq_some_iff.1 hc).1
    exact (q6 k _ (List.getElem?_eq_getElem (by omega))).1 c hc
  ·rintro ⟨q1,q2,q3,q5,q6,q7,q8,q9⟩
   exact ⟨by omega,by omega,by omega,by omega,q5,fun k x hx=>⟨fun c hc=>q8 k c hc,fun r hr=>q7 k r hr,q6 k x hx⟩,q9⟩
def Zl9 (b:Za):Prop :=
 Qm (Za.Library b) (Za.Design b)∧(Za.ZC b).length=(Zb.ZI (Za.Design b)).length∧ZfU (Za.ZC b) (fun k w=>Zce w ((sinks (Za.Design b) (k:Int)).length:Int))
theorem JJ {a:Zp} {d:Zb} (h:Qm a d) {x:Pl} (hx:x∈places d):Zbw d x.2.2.1:=by
 unfold places at hx
 rcases List.mem_append.1 hx with hx | hx
 ·obtain ⟨i,z,hi,hz⟩:=ZcW.1 hx
  unfold Xf at hz
  obtain ⟨j,n,hj,hn⟩:=ZcW.1 hz
  simp only [List.mem_singleton] at hn
  subst hn
  exact (h.2.2.1 z (List.mem_of_getElem? hi)).2.2 n (List.mem_of_getElem? hj)
 ·obtain ⟨j,p,hj,hp⟩:=ZcW.1 hx
  simp only [ZcI,List.mem_singleton] at hp
  subst hp
  exact (h.2.2.2.1 p (List.mem_of_getElem? hj)).2
theorem Zec (b:Za) (hb:sm YB b):ZdX b=some (tr (Zl9 b)):=by
 obtain ⟨a1,a2,a3⟩:=ZaI hb
 have s3:=Zo a3
 unfold ZdX
 refine Vm (YF (Zpk _ _ a1 a2) (fun hD=>Yz (fun q1=>?_))) ?_
  (P:=Qm (Za.Library b) (Za.Design b)∧((Za.ZC b).length:Int)=((Zb.ZI (Za.Design b)).length:Int)∧ZfU (Za.ZC b) (fun k w=>Zce w ((sinks (Za.Design b) (k:Int)).length:Int)))
 ·rw [QA (YT a3) (fun k w=>Zce w ((sinks (Za.Design b) (k:Int)).length:Int)) (bad:=false) (good:=true)
   (fun k w hx hk _=>by
    simp only [Zea,show (k:Int)<((Za.ZC b).length:Int) from by omega,if_true,Zt,hx,Option.bind_some,Jm _ _ hD.few,ZlA w _ (Jd a3 hx)]
    constructor
    ·intro hh;rw [if_pos (Ye hh)]
    ·intro hh;rw [if_neg (fun q=>hh ((Xa _).1 q))])
   (fun _=>by simp only [Zea,Int.lt_irrefl,if_false]),Zm3]
 ·unfold Zl9
  rw [show ((Za.ZC b).length:Int)=((Zb.ZI (Za.Design b)).length:Int)↔(Za.ZC b).length=(Zb.ZI (Za.Design b)).length from by omega]
theorem ZwR {l:List Pl} {k:Nat} {x:Pl} (hx:l[k]?=some x) :
  (((l.take (k+1)).filter (fun x=>!x.2.2.2.1)).map (fun x=>x.2.2.1))=if x.2.2.2.1=true then (((l.take k).filter (fun x=>!x.2.2.2.1)).map (fun x=>x.2.2.1)) else (((l.take k).filter (fun x=>!x.2.2.2.1)).map (fun x=>x.2.2.1))++[x.2.2.1]:=by
 rw [Z6 hx,List.filter_append,List.map_append]
 by_cases h:x.2.2.2.1=true
 ·rw [if_pos h];simp [h]
 ·rw [if_neg h];simp [h]
theorem Zkm (b:Za) (hb:sm YB b):ZfO b=some (tr (Zl9 b)):=by
 obtain ⟨a1,a2,a3⟩:=ZaI hb
 have s3:=Zo a3
 unfold ZfO
 refine Vm (YF (ZpV _ _ a1 a2) (fun hD=>Yz (fun q1=>?_))) ?_
  (P:=Qm (Za.Library b) (Za.Design b)∧((Za.ZC b).length:Int)=((Zb.ZI (Za.Design b)).length:Int)∧ZfU (Za.ZC b) (fun k w=>Zce w ((sinks (Za.Design b) (k:Int)).length:Int)))
 ·rw [Zj (by omega),Zj (by omega),Zj (by omega),Zj (by omega),Yl _ hD.few,Option.bind_some]
  have hpl:=Y7 hD.few
  have:=Yo (l:=places (Za.Design b)) (ρ:=Bool) (fun k=>((k:Int),ZpF (Za.ZC b).length ((((places (Za.Design b)).take k).filter (fun x=>!x.2.2.2.1)).map (fun x=>x.2.2.1)),())) (step:=fun v=>ZbQ b (places (Za.Design b)) v.1 v.2.1) (good:=tr (ZfU (Za.ZC b) (fun k w=>Zce w ((sinks (Za.Design b) (k:Int)).length:Int))))
   (fun k x hx hk=>by
    have hn:=JJ hD (List.mem_of_getElem? hx)
    have hl1:=List.length_filter_le (fun x:Pl=>!x.2.2.2.1) ((places (Za.Design b)).take k)
    rw [List.length_take] at hl1
    simp only [ZbQ,show (k:Int)<((places (Za.Design b)).length:Int) from by omega,if_true,Zt,hx,Option.bind_some,ZwR hx]
    by_cases hd:x.2.2.2.1=true
    ·rw [if_pos hd,if_pos hd,XK (by omega)]
    ·rw [if_neg hd,if_neg hd,Zke hn.1 (by have:=hn.2;show x.2.2.1<_;omega) (by rw [List.length_map];omega) (F:=fun o=>some (Sum.inl (IntKind.i64.wrap ((k:Int)+1),o,()))),XK (by omega)])
   (by
    simp only [ZbQ,Int.lt_irrefl,if_false,List.take_length]
    rw [QA (YT a3) (fun k w=>Zce w ((sinks (Za.Design b) (k:Int)).length:Int)) (bad:=.inr false) (good:=.inr true)
     (fun k w hx hk _=>by
      have hc:(sinks (Za.Design b) (k:Int)).length=_:=Zrg (k:Int) (places (Za.Design b)) 0
      simp only [ZeB,show (k:Int)<((Za.ZC b).length:Int) from by omega,if_true,Zt,hx,Option.bind_some]
      rw [ZkP hk,Option.bind_some,ZlP w _ (Jd a3 hx),Option.bind_some,hc]
      constructor
      ·intro hh;rw [if_pos (Ye hh)]
      ·intro hh;rw [if_neg (fun q=>hh ((Xa _).1 q))])
     (fun _=>by simp only [ZeB,Int.lt_irrefl,if_false])]
    congr 1
    by_cases hh:ZfU (Za.ZC b) (fun k w=>Zce w ((sinks (Za.Design b) (k:Int)).length:Int))
    ·rw [YX hh,Ye hh]
    ·rw [YM hh,ZR hh])
  rw [List.take_zero,List.filter_nil,List.map_nil,Zti] at this
  exact this
 ·unfold Zl9
  rw [show ((Za.ZC b).length:Int)=((Zb.ZI (Za.Design b)).length:Int)↔(Za.ZC b).length=(Zb.ZI (Za.Design b)).length from by omega]
structure JX (b:Za):Prop where
 ok:Zl9 b
 sm:sm YB b
end Go.Proofs.YtoefbkmllkpkkaaGreatDoor
/-
  Plain laws: the view is always made.
-/
namespace Go.Proofs.YtoefbkmllkpkkaaGreatDoor
set_option linter.unusedVariables false
set_option linter.unusedSimpArgs false
open Go Go.Sx
theorem Zjb {α τ ρ:Type} {l:List α} (I:Nat→τ→Prop) (Q:ρ→Prop) {step:τ→Option (τ ⊕ ρ)} {v:τ} (h0:I 0 v)
  (hs:∀ (k:Nat) (x:α) (v:τ),l[k]?=some x→k<l.length→I k v→∃ v',step v=some (.inl v')∧I (k+1) v')
  (hx:∀ v,I l.length v→∃ r,step v=some (.inr r)∧Q r):∃ r,Zv step v=some r∧Q r :=
 Vz l.length I Q h0 (fun k v hk hI=>.inl (hs k l[k] v (List.getElem?_eq_getElem hk) hk hI)) hx
theorem ZsI {α:Type} {l:List α} {i:Int} (h0:0≤i) (h1:i<(l.length:Int)):∃ x,atI l i=some x∧x∈l:=by
 obtain ⟨x,h2,h3⟩:=Zsq h0 h1
 exact ⟨x,h2,List.mem_of_getElem? h3⟩
theorem ZxJ {a:Zp} {d:Zb} (h:Qm a d) {x:Pl} (hx:x∈places d):∃ n,ZcC d a x=some n:=by
 unfold ZcC
 split
 ·exact ⟨_,rfl⟩
 ·rename_i hneg
  unfold places at hx
  rcases List.mem_append.1 hx with hx | hx
  ·obtain ⟨i,z,hi,hz⟩:=ZcW.1 hx
   unfold Xf at hz
   obtain ⟨j,n,hj,hn⟩:=ZcW.1 hz
   simp only [List.mem_singleton] at hn
   subst hn
   rw [Nat.zero_add] at hneg
   obtain ⟨hc,⟨c,hc1,hc2⟩,_⟩:=h.2.2.1 z (List.mem_of_getElem? hi)
   have hj2:=(List.getElem?_eq_some_iff.1 hj).1
   simp only [ZM.instance,ZM.pin,Nat.zero_add,Zt,hi,Option.bind_some]
   rw [Qa hc.1 hc1,Option.bind_some]
   have hp:(Zm.YC c)[j]?=some (Zm.YC c)[j]:=List.getElem?_eq_getElem (by omega)
   rw [hp,Option.bind_some]
   exact ⟨_,rfl⟩
  ·obtain ⟨j,p,hj,hp⟩:=ZcW.1 hx
   simp only [ZcI,List.mem_singleton] at hp
   subst hp
   exact absurd (by show (-1:Int)<0;omega) hneg
theorem Zyx {d:Zb} {net y:Int} (h:y∈sinks d net):0≤y∧y<((places d).length:Int):=by
 obtain ⟨k,x,hk,hy⟩:=ZcW.1 h
 have:=(List.getElem?_eq_some_iff.1 hk).1
 unfold ZaB at hy
 split at hy
 ·split at hy
  ·cases hy
  ·simp only [List.mem_singleton] at hy;omega
 ·cases hy
theorem ZnM {b:Za} (h:JX b) {k:Nat} {w:Zr} (hw:(Za.ZC b)[k]?=some w):∃ r,Vi b (k:Int)=some r∧r.length=(Zr.Parent w).length:=by
 have hW:=h.ok.2.2 k w hw
 have hD:=h.ok.1
 have hf:=hD.few
 obtain ⟨⟨l1,l8⟩,lr,lc,ls,ht,ar,ac,asn⟩:=hW
 have hpl:=Y7 hf
 have hsl:=ZfJ (k:Int) (places (Za.Design b)) 0
 have hsl2:(sinks (Za.Design b) (k:Int)).length≤78:=by unfold sinks;omega
 unfold Vi
 rw [Zt,hw,Option.bind_some]
 unfold ZF
 rw [Zj (by simp;omega),Option.bind_some,Yl _ hf,Option.bind_some,Zf4 _ _ hf,Option.bind_some]
 refine Zjb (l:=sinks (Za.Design b) (k:Int)) (fun m v=>v.1=(m:Int)∧v.2.1.length=(Zr.Parent w).length) _ ⟨rfl,by simp;omega⟩ ?_ ?_
 ·rintro m y ⟨i,l,⟨⟩⟩ hy hm ⟨hi,hl⟩
  simp only at hi hl
  subst hi
  have hz:(Zr.ZfR w)[m]?=some (Zr.ZfR w)[m]:=List.getElem?_eq_getElem (by omega)
  generalize (Zr.ZfR w)[m]=z at hz
  have hz2:=asn z (List.mem_of_getElem? hz)
  obtain ⟨q,hq1,_⟩:=ZsI (l:=l) hz2.1 (by omega)
  obtain ⟨hy1,hy2⟩:=Zyx (List.mem_of_getElem? hy)
  obtain ⟨p,hp1,hp2⟩:=ZsI hy1 hy2
  obtain ⟨c,hc⟩:=ZxJ hD hp2
  simp only [Jg,show (m:Int)<((sinks (Za.Design b) (k:Int)).length:Int) from by omega,if_true,Zt,hy,hz,Option.bind_some,hq1,hp1,hc]
  exact ⟨_,rfl,by rw [XK (by omega)],by simp [hl]⟩
 ·rintro ⟨i,l,⟨⟩⟩ ⟨hi,hl⟩
  simp only at hi hl
  subst hi
  simp only [Jg,Int.lt_irrefl,if_false]
  have:=Zsf (σ:=Int×List Int×Unit) (ρ:=(Int×List Int×Unit) ⊕ List Int) (step:=fun v=>Jj w v.1 v.2.1) (fun v=>(∃ j:Nat,v.1=(j:Int)∧j<(Zr.Parent w).length)∧v.2.1.length=(Zr.Parent w).length) (fun v=>v.1.toNat) (fun r=>∃ r',r=.inr r'∧r'.length=(Zr.Parent w).length) (v:=(IntKind.i64.wrap ((l.length:Int)-1),l,()))
   ⟨⟨l.length-1,by show IntKind.i64.wrap _=_;rw [Zo1 (by omega) (by omega)],by omega⟩,hl⟩
   (by
    rintro ⟨i,l,⟨⟩⟩ ⟨⟨j,hj,hj2⟩,hl⟩
    simp only at hj hl
    subst hj
    simp only [Jj]
    by_cases h0:(0:Int)<(j:Int)
    ·rw [if_pos h0]
     have hp:(Zr.Parent w)[j]?=some (Zr.Parent w)[j]:=List.getElem?_eq_getElem (by omega)
     generalize (Zr.Parent w)[j]=p at hp
     have hp2:=(ht j p hp).2 (by omega)
     obtain ⟨q,hq1,_⟩:=ZsI (l:=l) hp2.1 (by omega)
     have hl2:l[j]?=some l[j]:=List.getElem?_eq_getElem (by omega)
     simp only [Zt,hp,Option.bind_some,hq1,hl2]
     left
     refine ⟨_,rfl,⟨⟨j-1,by rw [Zo1 (by omega) (by omega)],by omega⟩,by simp [hl]⟩,?_⟩
     show (IntKind.i64.wrap ((j:Int)-1)).toNat<((j:Int)).toNat
     rw [Zo1 (by omega) (by omega)];omega
    ·rw [if_neg h0]
     right
     exact ⟨_,rfl,_,rfl,hl⟩)
  obtain ⟨r,h1,r',rfl,h3⟩:=this
  exact ⟨r',h1,h3⟩
theorem ZqN {b:Za} (h:JX b) {k:Nat} {w:Zr} (hw:(Za.ZC b)[k]?=some w):∃ r,Jb b (k:Int)=some r∧r.length≤1048576:=by
 have hW:=h.ok.2.2 k w hw
 obtain ⟨⟨l1,l8⟩,lr,lc,ls,ht,ar,ac,asn⟩:=hW
 obtain ⟨nl,hnl,hnl2⟩:=ZnM h hw
 have hsm:=Zo (Zlq (Jd (ZaI h.sm).2.2 hw)).2.2.2
 have hnd:∃ r,JA b (k:Int)=some r∧r.length=(Zr.Parent w).length:=by
  unfold JA
  rw [Zt,hw,Option.bind_some,hnl,Option.bind_some,Zj (by omega),Zj (by omega),Zj (by omega),Zj (by omega)]
  refine Vz ((Zr.Parent w).length-1) (fun m v=>v.1=((m+1:Nat):Int)∧v.2.1.length=(Zr.Parent w).length) _ ⟨rfl,by simp [hnl2]⟩ ?_ ?_
  ·rintro m ⟨i,l,⟨⟩⟩ hm ⟨hi,hl⟩
   simp only at hi hl
   subst hi
   left
   have hp:(Zr.Parent w)[m+1]?=some (Zr.Parent w)[m+1]:=List.getElem?_eq_getElem (by omega)
   generalize (Zr.Parent w)[m+1]=p at hp
   have hp2:=(ht (m+1) p hp).2 (by omega)
   obtain ⟨q,hq1,_⟩:=ZsI (l:=l) hp2.1 (by omega)
   have hr:(Zr.Res w)[m+1]?=some (Zr.Res w)[m+1]:=List.getElem?_eq_getElem (by omega)
   have hn:nl[m+1]?=some nl[m+1]:=List.getElem?_eq_getElem (by omega)
   have hl2:l[m+1]?=some l[m+1]:=List.getElem?_eq_getElem (by omega)
   simp only [VO,show ((m+1:Nat):Int)<(l.length:Int) from by omega,if_true,Zt,hp,hq1,hr,hn,hl2,Option.bind_some]
   exact ⟨_,rfl,by rw [XK (by omega)],by simp [hl]⟩
  ·rintro ⟨i,l,⟨⟩⟩ ⟨hi,hl⟩
   simp only at hi hl
   subst hi
   simp only [VO,show ¬(((Zr.Parent w).length-1+1:Nat):Int)<(l.length:Int) from by omega,if_false]
   exact ⟨_,rfl,hl⟩
 obtain ⟨nd,hnd,hnd2⟩:=hnd
 unfold Jb
 rw [hnd,Option.bind_some,Zt,hw,Option.bind_some]
 refine Zjb (l:=Zr.ZfR w) (fun m v=>v.1.length=m∧v.2.1=(m:Int)) _ ⟨rfl,rfl⟩ ?_ ?_
 ·rintro m y ⟨o,i,⟨⟩⟩ hy hm ⟨ho,hi⟩
  simp only at hi ho
  subst hi
  have hz2:=asn y (List.mem_of_getElem? hy)
  obtain ⟨q,hq1,_⟩:=ZsI (l:=nd) hz2.1 (by omega)
  simp only [Vx,show (m:Int)<((Zr.ZfR w).length:Int) from by omega,if_true,Zt,hy,hq1,Option.bind_some]
  rw [Zj (by simp;omega)]
  exact ⟨_,rfl,by simp [ho],by rw [XK (by omega)]⟩
 ·rintro ⟨o,i,⟨⟩⟩ ⟨ho,hi⟩
  simp only at hi ho
  subst hi
  simp only [Vx,Int.lt_irrefl,if_false]
  exact ⟨_,rfl,by omega⟩
theorem Zp8 (a:ZH):∃ r,Zaa a=some r∧r.length≤4:=by
 unfold Zaa
 repeat' split
 all_goals exact ⟨_,rfl,by simp⟩
theorem ZtL {b:Za} (h:JX b) {x:Ze} (hx:x∈Zb.Instances (Za.Design b)) (f:Int):∃ r,JZ b x f=some r∧r.length≤32:=by
 obtain ⟨hc,⟨c,hc1,hc2⟩,_⟩:=h.ok.1.2.2.1 x hx
 have hA:=(h.ok.1.1.2.1 c (List.mem_of_getElem? hc1)).2.2.1.1
 unfold JZ
 rw [Qa hc.1 hc1,Option.bind_some]
 refine Zjb (l:=Zm.Zak c) (fun m v=>v.1.length≤4*m∧v.2.1=(m:Int)) _ ⟨by simp,rfl⟩ ?_ ?_
 ·rintro m y ⟨o,i,⟨⟩⟩ hy hm ⟨ho,hi⟩
  simp only at hi ho
  subst hi
  obtain ⟨ts,ht1,ht2⟩:=Zp8 y
  simp only [Jl,show (m:Int)<((Zm.Zak c).length:Int) from by omega,if_true,Zt,hy,ht1,Option.bind_some]
  obtain ⟨r,hr1,r',rfl,hr2⟩:=Zjb (l:=ts) (ρ:=(List Zae×Int×Unit) ⊕ List Zae) (step:=fun v=>QB f (m:Int) y ts v.1 v.2.1) (v:=(o,(0:Int),())) (fun n v=>v.1.length=o.length+n∧v.2.1=(n:Int)) (fun r=>∃ r',r=.inl r'∧r'.1.length≤4*(m+1)∧r'.2.1=((m+1:Nat):Int)) ⟨rfl,rfl⟩
   (by
    rintro n z ⟨o2,i,⟨⟩⟩ hz hn ⟨ho2,hi⟩
    simp only at hi ho2
    subst hi
    simp only [QB,show (n:Int)<(ts.length:Int) from by omega,if_true,Zt,hz,Option.bind_some]
    rw [Zj (by simp;omega)]
    exact ⟨_,rfl,by simp [ho2];omega,by rw [XK (by omega)]⟩)
   (by
    rintro ⟨o2,i,⟨⟩⟩ ⟨ho2,hi⟩
    simp only at hi ho2
    subst hi
    simp only [QB,Int.lt_irrefl,if_false]
    exact ⟨_,rfl,_,rfl,by simp only;omega,by rw [XK (by omega)]⟩)
  exact ⟨r',hr1,hr2⟩
 ·rintro ⟨o,i,⟨⟩⟩ ⟨ho,hi⟩
  simp only at hi ho
  subst hi
  simp only [Jl,Int.lt_irrefl,if_false]
  exact ⟨_,rfl,by omega⟩
def Short (l:List (List Int)) (n m:Nat):Prop:=l.length=n∧∀ x∈l,x.length≤m
theorem Short.set {l:List (List Int)} {n m:Nat} (h:Short l n m) {x:List Int} (hx:x.length≤m) (i:Nat):Short (l.set i x) n m:=by
 refine ⟨by simp [h.1],fun y hy=>?_⟩
 rcases List.mem_or_eq_of_mem_set hy with hy | rfl
 ·exact h.2 y hy
 ·exact hx
theorem Short.mono {l:List (List Int)} {n m p:Nat} (h:Short l n m) (hp:m≤p):Short l n p:=⟨h.1,fun x hx=>Nat.le_trans (h.2 x hx) hp⟩
theorem ZvC {b:Za} (h:JX b):∃ v,Zhp b=some v∧Xo.places v=places (Za.Design b)∧Xo.Block v=b:=by
 have hD:=h.ok.1
 have hf:=hD.few
 have hpl:=Y7 hf
 have h14:=hf.insts
 have hwn:=h.ok.2.1
 have h30:=hD.2.1.2.1
 unfold Zhp
 rw [Yl _ hf,Option.bind_some]
 refine Zjb (l:=Zb.Instances (Za.Design b)) (fun k v=>v.2.1=(k:Int)∧v.2.2.1.length≤32*k) _ ⟨rfl,by simp⟩ ?_ ?_
 ·rintro k x ⟨n,i,c,⟨⟩⟩ hx hk ⟨hi,hc⟩
  simp only at hi hc
  subst hi
  obtain ⟨r,hr1,hr2⟩:=ZtL h (List.mem_of_getElem? hx) n
  simp only [ZeE,show (k:Int)<((Zb.Instances (Za.Design b)).length:Int) from by omega,if_true,Zt,hx,hr1,Option.bind_some,Vj]
  rw [Zj (by omega)]
  exact ⟨_,rfl,by simp only;rw [XK (by omega)],by simp only [List.length_append];omega⟩
 ·rintro ⟨n,i,c0,⟨⟩⟩ ⟨hi,hc0⟩
  simp only at hi hc0
  subst hi
  simp only [ZeE,Int.lt_irrefl,if_false]
  rw [Zj (by omega),Zj (by omega),Zj (by omega),Zj (by omega),Zj (by omega)]
  obtain ⟨r,hr1,r',rfl,hr2⟩:=Zjb (l:=places (Za.Design b)) (ρ:=(Int×Int×List Zae×Unit) ⊕ Xo) (step:=fun v=>ZbP b (places (Za.Design b)) c0 v.1 v.2.1 v.2.2.1) (v:=((0:Int),List.replicate (Int.toNat (↑(List.length (Za.ZC b)):Int)) (0:Int),List.replicate (Int.toNat (↑(List.length (Za.ZC b)):Int)) (([]:List Int)),()))
   (fun k v=>v.1=(k:Int)∧v.2.1.length=(Za.ZC b).length∧Short v.2.2.1 (Za.ZC b).length k)
   (fun r=>∃ r',r=.inr r'∧Xo.places r'=places (Za.Design b)∧Xo.Block r'=b)
   ⟨rfl,by simp,by simp,by
    intro x hx
    rw [List.mem_replicate] at hx
    rw [hx.2];simp⟩
   (by
    rintro k x ⟨i,l0,l1,⟨⟩⟩ hx hk ⟨hi,h0,h1⟩
    simp only at hi h0 h1
    subst hi
    have hn:=JJ hD (List.mem_of_getElem? hx)
    have hn1:=hn.2
    simp only [ZbP,show (k:Int)<((places (Za.Design b)).length:Int) from by omega,if_true,Zt,hx,Option.bind_some]
    obtain ⟨q,hq1,_⟩:=ZsI (l:=l0) hn.1 (by omega)
    obtain ⟨p,hp1,hp2⟩:=ZsI (l:=l1) hn.1 (by have:=h1.1;omega)
    have hp3:=h1.2 p hp2
    split
    ·rw [show atI l0 (ZM.net x)=some q from hq1,Option.bind_some]
     exact ⟨_,rfl,by simp only;rw [XK (by omega)],by simp [h0],h1.mono (by omega)⟩
    ·rw [show atI l1 (ZM.net x)=some p from hp1,Option.bind_some,Zj (by simp;omega)]
     exact ⟨_,rfl,by simp only;rw [XK (by omega)],h0,(h1.mono (by omega)).set (by simp;omega) _⟩)
   (by
    rintro ⟨i,l0,l1,⟨⟩⟩ ⟨hi,h0,h1⟩
    simp only at hi h0 h1
    subst hi
    simp only [ZbP,Int.lt_irrefl,if_false]
    obtain ⟨r,hr1,r',rfl,hr2⟩:=Zjb (l:=Za.ZC b) (ρ:=(Int×List Int×List (List Int)×Unit) ⊕ ((Int×Int×List Zae×Unit) ⊕ Xo)) (step:=fun v=>ZbG b (places (Za.Design b)) l0 v.1 v.2.1 v.2.2.1 v.2.2.2.1 v.2.2.2.2.1) (v:=((0:Int),([]:List Int),([]:List (List Int)),c0,l1,()))
     (fun k v=>v.1=(k:Int)∧v.2.1.length=k∧v.2.2.1.length=k∧v.2.2.2.1.length≤448+156*k∧Short v.2.2.2.2.1 (Za.ZC b).length 78)
     (fun r=>∃ r',r=.inr (.inr r')∧Xo.places r'=places (Za.Design b)∧Xo.Block r'=b)
     ⟨rfl,rfl,rfl,by simp only;omega,h1.mono (by omega)⟩
     (by
      rintro k w ⟨i,c1,c2,c3,l2,⟨⟩⟩ hw hk ⟨hi,g1,g2,g3,g4⟩
      simp only at hi g1 g2 g3 g4
      subst hi
      obtain ⟨nl,hnl,hnl2⟩:=ZnM h hw
      obtain ⟨ed,hed,hed2⟩:=ZqN h hw
      have hpar:=(h.ok.2.2 k w hw).1.1
      have hn0:atI nl (0:Int)=some nl[0]:=(show nl[0]?=some nl[0] from List.getElem?_eq_getElem (by omega))
      obtain ⟨x1,hl2⟩:∃ x1,l2[k]?=some x1:=⟨_,List.getElem?_eq_getElem (by have:=g4.1;omega)⟩
      have hx1:=g4.2 x1 (List.mem_of_getElem? hl2)
      simp only [ZbG,show (k:Int)<((Za.ZC b).length:Int) from by omega,if_true,hnl,hn0,hed,Option.bind_some,Zt,hl2]
      rw [Zj (by simp;omega),Zj (by simp;omega)]
      obtain ⟨r,hr1,r',rfl,hr2⟩:=Zjb (l:=x1) (ρ:=(Int×List Int×List (List Int)×List Zae×List (List Int)×Unit) ⊕ ((Int×List Int×List (List Int)×Unit) ⊕ ((Int×Int×List Zae×Unit) ⊕ Xo))) (step:=fun v=>ZbL l0 (k:Int) c1 c2 l2 nl[0] ed x1 v.1 v.2.1) (v:=((0:Int),c3,()))
       (fun m v=>v.1=(m:Int)∧v.2.1.length=c3.length+2*m)
       (fun r=>∃ r',r=.inl r'∧r'.1=((k+1:Nat):Int)∧r'.2.1.length=k+1∧r'.2.2.1.length=k+1∧r'.2.2.2.1.length≤448+156*(k+1)∧Short r'.2.2.2.2.1 (Za.ZC b).length 78)
       ⟨rfl,rfl⟩
       (by
        rintro m y ⟨i,c4,⟨⟩⟩ hy hm ⟨hi,gc⟩
        simp only at hi gc
        subst hi
        simp only [ZbL,show (m:Int)<(x1.length:Int) from by omega,if_true,Zt,hy,Option.bind_some]
        have hl0:l0[k]?=some l0[k]:=List.getElem?_eq_getElem (by omega)
        generalize l0[k]=z at hl0
        obtain ⟨r,hr1,r',rfl,hr2⟩:=Vz (step:=fun v=>ZbN l0 (k:Int) (m:Int) y v.1 v.2.1) 2 (fun j v=>v.1=(j:Int)∧v.2.1.length=c4.length+j) (fun r=>∃ r',r=.inl r'∧r'.1=((m+1:Nat):Int)∧r'.2.1.length=c4.length+2) (v:=((0:Int),c4,())) ⟨rfl,rfl⟩
         (by
          rintro j ⟨i,c5,⟨⟩⟩ hj ⟨hi,hc5⟩
          simp only at hi hc5
          subst hi
          left
          simp only [ZbN,show (j:Int)<(2:Int) from by omega,if_true,Zt,hl0,Option.bind_some]
          rw [Zj (by simp;omega)]
          exact ⟨_,rfl,by simp only;rw [XK (by omega)],by simp [hc5];omega⟩)
         (by
          rintro ⟨i,c5,⟨⟩⟩ ⟨hi,hc5⟩
          simp only at hi hc5
          subst hi
          simp only [ZbN,show ¬((2:Nat):Int)<(2:Int) from by omega,if_false]
          exact ⟨_,rfl,_,rfl,by simp only;rw [XK (by omega)],hc5⟩)
        exact ⟨r',hr1,hr2.1,by rw [hr2.2];omega⟩)
       (by
        rintro ⟨i,c4,⟨⟩⟩ ⟨hi,gc⟩
        simp only at hi gc
        subst hi
        simp only [ZbL,Int.lt_irrefl,if_false]
        exact ⟨_,rfl,_,rfl,by simp only;rw [XK (by omega)],by simp [g1],by simp [g2],by simp only;omega,g4.set hx1 _⟩)
      exact ⟨r',hr1,hr2⟩)
     (by
      rintro ⟨i,c1,c2,c3,l2,⟨⟩⟩ ⟨hi,g1,g2,g3,g4⟩
      simp only at hi
      subst hi
      simp only [ZbG,Int.lt_irrefl,if_false]
      exact ⟨_,rfl,_,rfl,rfl,rfl⟩)
    exact ⟨_,hr1,_,rfl,hr2⟩)
  exact ⟨r',hr1,hr2⟩
end Go.Proofs.YtoefbkmllkpkkaaGreatDoor
/-
  Plain laws: spans, slews.
-/
namespace Go.Proofs.YtoefbkmllkpkkaaGreatDoor
set_option linter.unusedVariables false
set_option linter.unusedSimpArgs false
open Go Go.Sx
def Ziw (s:YG):Prop:=0≤YG.Early s∧YG.Early s≤YG.Late s∧YG.Late s≤1000000
theorem Zdm (s:YG):Zep s=some (tr (Ziw s)):=by
 unfold Zep Ziw
 exact Yz (fun _=>Yz (fun _=>JW decide_eq_true_iff))
def Zqq (s:YG):Prop:=(-1000000000≤YG.Early s∧YG.Early s≤1000000000)∧(-1000000000≤YG.Late s∧YG.Late s≤1000000000)∧YG.Early s≤YG.Late s
theorem Zc2 (s:YG):Ze8 s=some (tr (Zqq s)):=by
 unfold Ze8 Zqq ZiT
 exact YF (JO (XD _ _ _)) (fun _=>YF (JO (XD _ _ _)) (fun _=>JW decide_eq_true_iff))
theorem Zjq (s:YG):Zev s=some (tr (Ziw s)):=by
 unfold Zev ZiN
 refine Vm (YF (Zc2 s) (fun _=>YF (JO (XD _ _ _)) (fun _=>JO (JO (XD _ _ _))))) ?_
 unfold Ziw Zqq
 omega
end Go.Proofs.YtoefbkmllkpkkaaGreatDoor
/-
  Plain laws: corners, exceptions, externals.
-/
namespace Go.Proofs.YtoefbkmllkpkkaaGreatDoor
set_option linter.unusedVariables false
set_option linter.unusedSimpArgs false
open Go Go.Sx
def ZxY (e l:Int):Prop:=100≤e∧e≤l∧l≤5000
def ZiM (c:Zu):Prop:=Jc (Zu.Name c)=true∧ZxY (Zu.Qh c) (Zu.J2 c)∧ZxY (Zu.Zad c) (Zu.Zdn c)
def Zj1 (l:List Zu):Prop:=l.length≤4∧(∀ c∈l,ZiM c)∧Qd (l.map Zu.Name) l.length
theorem ZAe {c:Zu} (h:sm ZW c):(Zu.Name c).length≤4611686018427387904:=by
 refine ZgU ?_
 first | exact h.1 | exact h.2.1
theorem Znk (e l:Int):ZbW e l=some (tr (ZxY e l)):=by
 unfold ZbW ZxY
 exact Yz (fun _=>Yz (fun _=>JW decide_eq_true_iff))
theorem Zpd (c:Zu):Zgq c=some (tr (ZiM c)):=by
 unfold Zgq
 exact YF (by rw [Zfd];exact JW Iff.rfl) (fun _=>YF (Znk _ _) (fun _=>JO (Znk _ _)))
theorem Zpq (c:Zu) (h:sm ZW c):Zgd c=some (tr (ZiM c)):=by
 unfold Zgd
 rw [QA (l:=[Zu.Qh c,Zu.J2 c,Zu.Zad c,Zu.Zdn c]) (show List.length _≤_ by simp) (fun _ x=>(100:Int)≤x∧x≤5000) (bad:=false) (good:=tr (Jc (Zu.Name c)=true∧Zu.Qh c≤Zu.J2 c∧Zu.Zad c≤Zu.Zdn c))
  (fun k x hx hk _=>by
   simp only [ZdH,show (k:Int)<((List.length [Zu.Qh c,Zu.J2 c,Zu.Zad c,Zu.Zdn c]:Nat):Int) from by omega,if_true,Zt,hx,Option.bind_some,Ql]
   constructor
   ·intro hh;rw [if_pos (Ye hh)]
   ·intro hh;rw [if_neg (fun q=>hh ((Xa _).1 q))])
  (fun _=>by
   simp only [ZdH,Int.lt_irrefl,if_false,Zaf _ (ZAe h),Option.bind_some]
   by_cases a:Jc (Zu.Name c)=true
   ·rw [if_pos a]
    by_cases b:Zu.Qh c≤Zu.J2 c
    ·rw [if_pos b]
     congr 2
     exact (Zm2 (by rw [decide_eq_true_eq];exact ⟨fun q=>⟨a,b,q⟩,fun q=>q.2.2⟩)).symm
    ·rw [if_neg b,ZR (fun q=>b q.2.1)]
   ·rw [if_neg a,ZR (fun q=>a q.1)]),Zeu]
 congr 1
 refine YI ?_
 rw [JB]
 simp only [List.mem_cons,List.not_mem_nil,or_false,forall_eq_or_imp,forall_eq]
 unfold ZiM ZxY
 constructor
 ·rintro ⟨⟨q1,q2,q3,q4⟩,q5,q6,q7⟩;exact ⟨q5,by omega,by omega⟩
 ·rintro ⟨q5,q6,q7⟩;exact ⟨by omega,q5,by omega,by omega⟩
theorem Zny (l:List Zu) (h:sm (.sl ZW) l):Zek l=some (tr (Zj1 l)):=by
 have hs:=Zo h
 unfold Zek
 rw [QA (YT h) (fun k c=>ZiM c∧∀ (j:Nat) (q:Zu),j<k→l[j]?=some q→Zu.Name q≠Zu.Name c) (bad:=false) (good:=tr (l.length≤4))
  (fun k c hx hk _=>by
   simp only [Zb7,show (k:Int)<(l.length:Int) from by omega,if_true,Zt,hx,Option.bind_some,Zpq c (Jd h hx)]
   by_cases hC:ZiM c
   ·rw [if_pos (Ye hC),Zml (f:=Zu.Name) (l:=l) (x:=c) (k:=k) (by omega) (by omega) (bad:=.inr false) (good:=.inl (IntKind.i64.wrap ((k:Int)+1),()))
     (fun j y hj hy=>by
      simp only [ZbX,show (j:Int)<(k:Int) from by omega,if_true,Zt,hy,Option.bind_some]
      split<;>rfl)
     (by simp only [ZbX,Int.lt_irrefl,if_false])]
    constructor
    ·intro hh;rw [YX hh.2]
    ·intro hh;rw [YM (fun q=>hh ⟨hC,q⟩)]
   ·rw [if_neg (by rw [ZR hC];simp)]
    exact ⟨fun hh=>absurd hh.1 hC,fun _=>rfl⟩)
  (fun _=>by
   simp only [Zb7,Int.lt_irrefl,if_false]
   congr 2
   exact (Zm2 (by rw [decide_eq_true_eq];omega)).symm)]
 rw [Zeu]
 congr 1
 refine YI ?_
 unfold Zj1
 rw [Zqu,←JB]
 constructor
 ·rintro ⟨q,q8⟩
  exact ⟨q8,fun k x hx=>(q k x hx).1,fun k x hx=>⟨(q k x hx).1.1,(q k x hx).2⟩⟩
 ·rintro ⟨q8,q1,q2⟩
  exact ⟨fun k x hx=>⟨q1 k x hx,(q2 k x hx).2⟩,q8⟩
theorem Zlf (l:List Zu) (h:sm (.sl ZW) l) (h0:l.length≠0):ZcH l=some (tr (Zj1 l)):=by
 have hs:=Zo h
 unfold ZcH
 have hlen:(l.map Zu.Name).length=l.length:=by simp
 have:=Zhr (l:=l) (ρ:=Bool) (fun k=>((l.map Zu.Name).take k,(k:Int),())) (fun _ c=>ZiM c) (step:=fun v=>Qg l v.1 v.2.1) (bad:=false) (good:=tr (l.length≤4∧Qd (l.map Zu.Name) l.length))
  (fun k c hx hk _=>by
   have hn:(l.map Zu.Name)[k]?=some (Zu.Name c):=by simp [hx]
   simp only [Qg,show (k:Int)<(l.length:Int) from by omega,if_true,Zt,hx,Option.bind_some,Zpd c]
   rw [Zj (by simp only [List.length_take,List.length_singleton,List.length_map];omega),Z6 hn,XK (by omega)]
   constructor
   ·intro hh;rw [if_pos (Ye hh)]
   ·intro hh;rw [if_neg (by rw [ZR hh];simp)])
  (fun hA=>by
   have e0:(l.map Zu.Name).take l.length=l.map Zu.Name:=by rw [←hlen,List.take_length]
   simp only [Qg,Int.lt_irrefl,if_false,e0,show ZaH l=some (l.length:Int) from rfl,Option.bind_some,XD]
   by_cases h4:l.length≤4
   ·rw [if_pos (Ye (by omega)),Vh _ (by rw [hlen];omega),Option.bind_some,hlen]
    congr 2
    exact YI ⟨fun q=>⟨h4,q⟩,fun q=>q.2⟩
   ·rw [if_neg (fun q=>h4 (by have:=(Xa _).1 q;omega)),ZR (fun q=>h4 q.1)])
 refine (show Zv (fun v=>Qg l v.1 v.2.1) (([]:List (List UInt8)),(0:Int),())=_ from this).trans ?_
 rw [Zeu]
 congr 1
 refine YI ?_
 rw [JB]
 exact ⟨fun q=>⟨q.2.1,q.1,q.2.2⟩,fun q=>⟨q.2.1,q.1,q.2.2⟩⟩
def Zvy (k v:Int):Prop:=(k=1∧v=0)∨(k=2∧1≤v∧v≤10)∨((k=3∨k=4)∧0≤v∧v≤1000000000)
def ZoF (n:Nat) (l:List Int):Prop:=l.length≤4∧ZjE l 0 ((n:Int)-1)
def Zq2 (n:Nat) (e:Zg):Prop:=ZoF n (Zg.From e)∧ZoF n (Zg.Through e)∧ZoF n (Zg.To e)∧Inc (Zg.From e)∧Inc (Zg.To e)∧Zvy (Zg.Kind e) (Zg.Value e)
theorem ZBJ {e:Zg} (h:sm ZA e):sm (.sl (.int .i64)) (Zg.From e)∧sm (.sl (.int .i64)) (Zg.Through e)∧sm (.sl (.int .i64)) (Zg.To e):=by
 refine ⟨?_,?_,?_⟩
 all_goals first | exact h.1 | exact h.2.1 | exact h.2.2.1 | exact h.2.2.2.1 | exact h.2.2.2.2.1
theorem Zrp (k v:Int):Zhv k v=some (tr (Zvy k v)):=by
 unfold Zhv Zvy
 simp only [XD,Option.bind_some]
 by_cases k1:k=1
 ·rw [if_pos k1];exact JW (by rw [decide_eq_true_eq];omega)
 rw [if_neg k1]
 by_cases k2:k=2
 ·rw [if_pos k2];congr 1;exact YI (by omega)
 rw [if_neg k2]
 by_cases k3:k=3
 ·rw [if_pos k3,if_pos k3];congr 1;exact YI (by omega)
 rw [if_neg k3]
 by_cases k4:k=4
 ·rw [if_pos k4];congr 1;exact YI (by omega)
 ·rw [if_neg k4,ZR (by omega)]
theorem Ziu (v:Xo) (e:Zg) (h:sm ZA e) (hn:(Xo.places v).length≤1048576):QX v e=some (tr (Zq2 (Xo.places v).length e)):=by
 obtain ⟨a1,a2,a3⟩:=ZBJ h
 have e1:IntKind.i64.wrap (((Xo.places v).length:Int)-1)=((Xo.places v).length:Int)-1:=Qc (by omega) (by omega)
 unfold QX
 rw [QA (l:=[Zg.From e,Zg.Through e,Zg.To e]) (show List.length _≤_ by simp) (fun _ x=>ZoF (Xo.places v).length x) (bad:=false) (good:=tr (Zvy (Zg.Kind e) (Zg.Value e)∧Inc (Zg.From e)∧Inc (Zg.To e)))
  (fun k x hx hk _=>by
   have hxs:x.length≤1048576:=by
    have:=List.mem_of_getElem? hx
    simp only [List.mem_cons,List.not_mem_nil,or_false] at this
    rcases this with rfl | rfl | rfl
    ·exact Zo a1
    ·exact Zo a2
    ·exact Zo a3
   simp only [VL,show (k:Int)<((List.length [Zg.From e,Zg.Through e,Zg.To e]:Nat):Int) from by omega,if_true,Zt,hx,Option.bind_some,show Xw (Xo.places v)=some ((Xo.places v).length:Int) from rfl,e1,ZhR x _ _ hxs]
   unfold ZoF
   by_cases h4:(4:Int)<(x.length:Int)
   ·rw [if_pos h4]
    exact ⟨fun hh=>by omega,fun _=>rfl⟩
   ·rw [if_neg h4]
    constructor
    ·intro hh;rw [if_pos (Ye hh.2)]
    ·intro hh;rw [if_neg (fun q=>hh ⟨by omega,(Xa _).1 q⟩)])
  (fun _=>by
   simp only [VL,Int.lt_irrefl,if_false,Zrp,Option.bind_some,ZcO _ (YT (t:=.int .i64) a1),ZcO _ (YT (t:=.int .i64) a3)]
   by_cases q1:Zvy (Zg.Kind e) (Zg.Value e)
   ·rw [if_pos (Ye q1)]
    by_cases q2:Inc (Zg.From e)
    ·rw [if_pos (Ye q2)]
     congr 2
     exact YI ⟨fun q=>⟨q1,q2,q⟩,fun q=>q.2.2⟩
    ·rw [if_neg (fun q=>q2 ((Xa _).1 q)),ZR (fun q=>q2 q.2.1)]
   ·rw [if_neg (fun q=>q1 ((Xa _).1 q)),ZR (fun q=>q1 q.1)]),Zeu]
 congr 1
 refine YI ?_
 rw [JB]
 simp only [List.mem_cons,List.not_mem_nil,or_false,forall_eq_or_imp,forall_eq]
 unfold Zq2
 exact ⟨fun ⟨⟨q1,q2,q3⟩,q4,q5,q6⟩=>⟨q1,q2,q3,q5,q6,q4⟩,fun ⟨q1,q2,q3,q5,q6,q4⟩=>⟨⟨q1,q2,q3⟩,q4,q5,q6⟩⟩
theorem ZDd {l:List Int}:Inc l↔ZfU l (fun k x=>∀ y,0<k→l[k-1]?=some y→y<x):=by
 constructor
 ·intro h k x hx y hk hy
  exact h (k-1) y x hy (by rw [show k-1+1=k by omega];exact hx)
 ·intro h k x y hx hy
  exact h (k+1) y hy x (by omega) hx
theorem ZeQ (b:Za) (hf:Few (Za.Design b)) (l:List Int) (srt:Bool) (h:sm (.sl (.int .i64)) l):Zbk b l srt=some (tr (ZoF (places (Za.Design b)).length l∧(srt=true→Inc l))):=by
 have hs:=Zo h
 have hpl:=Y7 hf
 have e1:IntKind.i64.wrap (((places (Za.Design b)).length:Int)-1)=((places (Za.Design b)).length:Int)-1:=Qc (by omega) (by omega)
 have hcnt:Zgt b=some ((places (Za.Design b)).length:Int):=by unfold Zgt;rw [Xe _ hf];rfl
 unfold Zbk
 rw [QA (YT h) (fun k x=>(0≤x∧x≤((places (Za.Design b)).length:Int)-1)∧(srt=true→∀ y,0<k→l[k-1]?=some y→y<x)) (bad:=false) (good:=tr (l.length≤4))
  (fun k x hx hk _=>by
   simp only [ZcS,show (k:Int)<(l.length:Int) from by omega,if_true,Zt,hx,Option.bind_some,hcnt,Ql,e1]
   by_cases hb:0≤x∧x≤((places (Za.Design b)).length:Int)-1
   ·rw [if_pos (Ye hb)]
    cases srt
    ·simp only [Bool.false_eq_true,if_false]
     exact ⟨fun _=>trivial,fun hh=>absurd ⟨hb,fun q=>by cases q⟩ hh⟩
    ·simp only [if_true]
     by_cases h0:(0:Int)<(k:Int)
     ·obtain ⟨y,hy⟩:∃ y,l[k-1]?=some y:=⟨_,List.getElem?_eq_getElem (by omega)⟩
      rw [if_pos h0,Zo1 (by omega) (by omega),Zt,hy,Option.bind_some]
      constructor
      ·intro hh
       rw [if_neg]
       have:=hh.2 trivial y (by omega) rfl
       omega
      ·intro hh
       rw [if_pos]
       apply Classical.byContradiction
       intro hlt
       refine hh ⟨hb,fun _ y' _ hy'=>?_⟩
       injection hy' with hy'
       have:¬x≤y:=hlt
       omega
     ·rw [if_neg h0]
      exact ⟨fun _=>rfl,fun hh=>absurd ⟨hb,fun _ y hk0=>by omega⟩ hh⟩
   ·rw [if_neg (fun q=>hb ((Xa _).1 q))]
    exact ⟨fun hh=>absurd hh.1 hb,fun _=>rfl⟩)
  (fun _=>by
   simp only [ZcS,Int.lt_irrefl,if_false]
   congr 2
   exact (Zm2 (by rw [decide_eq_true_eq];omega)).symm),Zeu]
 congr 1
 refine YI ?_
 unfold ZoF
 rw [ZDd]
 constructor
 ·rintro ⟨q1,q2⟩
  exact ⟨⟨q2,JB.1 (fun k x hx=>(q1 k x hx).1)⟩,fun hs k x hx=>(q1 k x hx).2 hs⟩
 ·rintro ⟨⟨q2,q1⟩,q3⟩
  exact ⟨fun k x hx=>⟨q1 x (List.mem_of_getElem? hx),fun hs=>q3 hs k x hx⟩,q2⟩
theorem Zl8 (b:Za) (h:JX b) (e:Zg) (he:sm ZA e):Zdk b e=some (tr (Zq2 (places (Za.Design b)).length e)):=by
 obtain ⟨a1,a2,a3⟩:=ZBJ he
 have hf:=h.ok.1.few
 unfold Zdk
 rw [Zec b h.sm,Option.bind_some,if_pos (Ye h.ok)]
 refine Vm (YF (ZeQ b hf _ _ a1) (fun _=>YF (ZeQ b hf _ _ a2) (fun _=>YF (ZeQ b hf _ _ a3) (fun _=>(?_:_=some (tr (Zvy (Zg.Kind e) (Zg.Value e)))))))) ?_
 ·unfold Zvy
  simp only [Ql,Option.bind_some]
  by_cases k1:Zg.Kind e=1
  ·rw [if_pos k1];exact JW (by rw [decide_eq_true_eq];omega)
  rw [if_neg k1]
  by_cases k2:Zg.Kind e=2
  ·rw [if_pos k2];congr 1;exact YI (by omega)
  rw [if_neg k2]
  by_cases k3:Zg.Kind e=3
  ·rw [if_pos k3,if_pos k3];congr 1;exact YI (by omega)
  rw [if_neg k3]
  by_cases k4:Zg.Kind e=4
  ·rw [if_pos k4];congr 1;exact YI (by omega)
  ·rw [if_neg k4,ZR (by omega)]
 ·unfold Zq2
  constructor
  ·rintro ⟨⟨q1,q2⟩,⟨q3,_⟩,⟨q4,q5⟩,q6⟩;exact ⟨q1,q3,q4,q2 rfl,q5 rfl,q6⟩
  ·rintro ⟨q1,q3,q4,q2,q5,q6⟩;exact ⟨⟨q1,fun _=>q2⟩,⟨q3,fun q=>by cases q⟩,⟨q4,fun _=>q5⟩,q6⟩
end Go.Proofs.YtoefbkmllkpkkaaGreatDoor
/-
  Plain laws: externals, setups; the law.
-/
namespace Go.Proofs.YtoefbkmllkpkkaaGreatDoor
set_option linter.unusedVariables false
set_option linter.unusedSimpArgs false
open Go Go.Sx
theorem Zxg {ρ:Type} {P Q:Prop} {_:Decidable P} {m:Option ρ} {a b:ρ} (hm:P→m=some (sel Q a b)):(if P then m else some b)=some (sel (P∧Q) a b):=by
 by_cases h:P
 ·rw [if_pos h,hm h]
  by_cases q:Q
  ·rw [YX q,YX ⟨h,q⟩]
  ·rw [YM q,YM (fun x=>q x.2)]
 ·rw [if_neg h,YM (fun q=>h q.1)]
theorem ZlM {ρ:Type} {P Q:Prop} {_:Decidable P} {m:Option ρ} {a b:ρ} (hm:¬P→m=some (sel Q a b)):(if P then some b else m)=some (sel (¬P∧Q) a b):=by
 by_cases h:P
 ·rw [if_pos h,YM (fun q=>q.1 h)]
 ·rw [if_neg h,hm h]
  by_cases q:Q
  ·rw [YX q,YX ⟨h,q⟩]
  ·rw [YM q,YM (fun x=>q x.2)]
theorem Zil {ρ:Type} {P Q:Prop} {c:Option Bool} {m:Option ρ} {a b:ρ} (h:c=some (tr P)) (hm:P→m=some (sel Q a b)):(c.bind fun x=>if x=true then m else some b)=some (sel (P∧Q) a b):=by
 rw [h,Option.bind_some]
 by_cases hp:P
 ·rw [if_pos (Ye hp),hm hp]
  by_cases q:Q
  ·rw [YX q,YX ⟨hp,q⟩]
  ·rw [YM q,YM (fun x=>q x.2)]
 ·rw [if_neg (by rw [ZR hp];simp),YM (fun q=>hp q.1)]
theorem ZBd {ρ:Type} {a b:ρ}:some a=some (sel True a b):=by rw [YX trivial]
theorem ZlE {ρ:Type} {m:Option ρ} {P Q:Prop} {a b:ρ} (h:m=some (sel P a b)) (hpq:P↔Q):m=some (sel Q a b):=by rw [h,propext hpq]
theorem Zwn {ρ:Type} {m:Option ρ} {P:Prop} {a b:ρ} (h:m=some (sel P a b)):(P→m=some a)∧(¬P→m=some b):=⟨fun q=>by rw [h,YX q],fun q=>by rw [h,YM q]⟩
def Zs7 (s:YG):Prop:=YG.Early s≤YG.Late s∧-100000≤YG.Early s∧YG.Late s≤100000
def ZBW (pl:List Pl) (drv:Bool) (i:Int):Prop:=∃ p,atI pl i=some p∧p.1<0∧p.2.2.2.1=drv
def Zmy (pl:List Pl) (nc:Int) (drv:Bool) (l:List Zh) (k:Nat) (x:Zh):Prop :=
 (0≤Zh.Place x∧Zh.Place x≤(pl.length:Int)-1)∧ZBW pl drv (Zh.Place x)∧(∀ y,0<k→l[k-1]?=some y→Zh.Place y<Zh.Place x)∧
 (0≤Zh.Clock x∧Zh.Clock x≤nc-1)∧Zs7 (Zh.Delay x)∧Ziw (Zh.ZdY x)∧(drv=false→YG.Early (Zh.ZdY x)=0∧YG.Late (Zh.ZdY x)=0)
def Zir (pl:List Pl) (nc:Int) (drv:Bool) (l:List Zh):Prop:=ZfU l (Zmy pl nc drv l)
theorem ZjO (v:Xo) (i:Int) (hn:(Xo.places v).length≤1048576):VF v i=some (tr (0≤i∧i≤((Xo.places v).length:Int)-1)):=by
 unfold VF
 rw [show Xw (Xo.places v)=some ((Xo.places v).length:Int) from rfl,Option.bind_some,Qc (by omega) (by omega)]
 exact JO (XD _ _ _)
theorem Zp0 {s:YG}:(Decidable.decide (YG.Early s=(0:Int))&&Decidable.decide (YG.Late s=(0:Int)))=true↔YG.Early s=0∧YG.Late s=0:=by simp
theorem ZfM {pl:List Pl} {drv:Bool} {i:Int} {p:Pl} (h:atI pl i=some p):ZBW pl drv i↔¬(0:Int)≤p.1∧(p.2.2.2.1 == drv)=true:=by
 unfold ZBW
 rw [h,beq_iff_eq]
 constructor
 ·rintro ⟨q,q1,q2,q3⟩
  injection q1 with q1
  subst q1
  exact ⟨by omega,q3⟩
 ·rintro ⟨q1,q2⟩
  exact ⟨p,rfl,by omega,q2⟩
theorem ZkU {l:List Zh} {k:Nat} {x y:Zh} (hk:0<k) (hy:l[k-1]?=some y):(∀ y,0<k→l[k-1]?=some y→Zh.Place y<Zh.Place x)↔¬Zh.Place x≤Zh.Place y:=by
 constructor
 ·intro h
  have:=h y hk hy
  omega
 ·intro h z _ hz
  rw [hy] at hz
  injection hz with hz
  subst hz
  omega
theorem Zjk {l:List Zh} {k:Nat} {x:Zh} (hk:¬0<k):(∀ y,0<k→l[k-1]?=some y→Zh.Place y<Zh.Place x)↔True:=⟨fun _=>trivial,fun _ y h=>absurd h hk⟩
theorem Zf7 (v:Xo) (l:List Zh) (drv:Bool) (nc:Int) (h:sm (.sl Zx) l) (hn:(Xo.places v).length≤1048576) (h0:0≤nc) (h1:nc≤1048576):QG v l drv nc=some (tr (Zir (Xo.places v) nc drv l)):=by
 have hs:=Zo h
 have e1:IntKind.i64.wrap (nc-1)=nc-1:=Qc (by omega) (by omega)
 unfold QG
 rw [QA (YT h) (Zmy (Xo.places v) nc drv l) (bad:=false) (good:=true)
  (fun k x hx hk _=>by
   refine Zwn ?_
   simp only [Vv,show (k:Int)<(l.length:Int) from by omega,if_true,Zt,hx,Option.bind_some,e1]
   refine ZlE (Q:=Zmy (Xo.places v) nc drv l k x) (P:=(0≤Zh.Place x∧Zh.Place x≤((Xo.places v).length:Int)-1)∧Zmy (Xo.places v) nc drv l k x) (Zil (ZjO v _ hn) (fun hp=>?_)) ⟨fun q=>q.2,fun q=>⟨q.1,q⟩⟩
   obtain ⟨p,hp1,_⟩:=ZsI hp.1 (show Zh.Place x<((Xo.places v).length:Int) by omega)
   rw [hp1,Option.bind_some]
   by_cases hk0:0<k
   ·obtain ⟨y,hy⟩:∃ y,l[k-1]?=some y:=⟨_,List.getElem?_eq_getElem (by omega)⟩
    rw [if_pos (show (0:Int)<(k:Int) by omega),Zo1 (by omega) (by omega),Zt,hy,Option.bind_some]
    cases drv
    ·simp only [Bool.false_eq_true,if_false]
     refine ZlE (ZlM (fun _=>Zxg (fun _=>ZlM (fun _=>Zil (XD _ _ _) (fun _=>Zil (Zc2 _) (fun _=>ZlM (fun _=>ZlM (fun _=>Zxg (fun _=>ZBd))))))))) ?_
     unfold Zmy
     rw [ZfM hp1,ZkU hk0 hy,Zp0]
     unfold Zs7 Ziw Zqq
     grind
    ·simp only [if_true]
     refine ZlE (ZlM (fun _=>Zxg (fun _=>ZlM (fun _=>Zil (XD _ _ _) (fun _=>Zil (Zc2 _) (fun _=>ZlM (fun _=>ZlM (fun _=>Zil (Zjq _) (fun _=>ZBd))))))))) ?_
     unfold Zmy
     rw [ZfM hp1,ZkU hk0 hy]
     unfold Zs7 Ziw Zqq
     grind
   ·rw [if_neg (show ¬(0:Int)<(k:Int) by omega)]
    cases drv
    ·simp only [Bool.false_eq_true,if_false]
     refine ZlE (ZlM (fun _=>Zxg (fun _=>Zil (XD _ _ _) (fun _=>Zil (Zc2 _) (fun _=>ZlM (fun _=>ZlM (fun _=>Zxg (fun _=>ZBd)))))))) ?_
     unfold Zmy
     rw [ZfM hp1,Zjk hk0,Zp0]
     unfold Zs7 Ziw Zqq
     grind
    ·simp only [if_true]
     refine ZlE (ZlM (fun _=>Zxg (fun _=>Zil (XD _ _ _) (fun _=>Zil (Zc2 _) (fun _=>ZlM (fun _=>ZlM (fun _=>Zil (Zjq _) (fun _=>ZBd)))))))) ?_
     unfold Zmy
     rw [ZfM hp1,Zjk hk0]
     unfold Zs7 Ziw Zqq
     grind)
  (fun _=>by simp only [Vv,Int.lt_irrefl,if_false]),Zm3]
 rfl
theorem Zf5 (b:Za) (s:Zn) (l:List Zh) (drv:Bool) (h:sm (.sl Zx) l) (hf:Few (Za.Design b)) (hc:(Zn.YS s).length≤1048576):Zat b s l drv=some (tr (Zir (places (Za.Design b)) ((Zn.YS s).length:Int) drv l)):=by
 have hs:=Zo h
 have hpl:=Y7 hf
 have e1:IntKind.i64.wrap (((Zn.YS s).length:Int)-1)=((Zn.YS s).length:Int)-1:=Qc (by omega) (by omega)
 have e2:IntKind.i64.wrap (((places (Za.Design b)).length:Int)-1)=((places (Za.Design b)).length:Int)-1:=Qc (by omega) (by omega)
 unfold Zat
 rw [Xe _ hf,Option.bind_some]
 rw [QA (YT h) (Zmy (places (Za.Design b)) ((Zn.YS s).length:Int) drv l) (bad:=false) (good:=true)
  (fun k x hx hk _=>by
   refine Zwn ?_
   simp only [Za2,show (k:Int)<(l.length:Int) from by omega,if_true,Zt,hx,Option.bind_some,e1,e2]
   refine ZlE (Q:=Zmy (places (Za.Design b)) ((Zn.YS s).length:Int) drv l k x) (P:=(0≤Zh.Place x∧Zh.Place x≤((places (Za.Design b)).length:Int)-1)∧Zmy (places (Za.Design b)) ((Zn.YS s).length:Int) drv l k x) (Zil (Ql _ _ _) (fun hp=>?_)) ⟨fun q=>q.2,fun q=>⟨q.1,q⟩⟩
   obtain ⟨p,hp1,_⟩:=ZsI hp.1 (show Zh.Place x<((places (Za.Design b)).length:Int) by omega)
   rw [hp1]
   simp only [Option.bind_some]
   by_cases hk0:0<k
   ·obtain ⟨y,hy⟩:∃ y,l[k-1]?=some y:=⟨_,List.getElem?_eq_getElem (by omega)⟩
    rw [if_pos (show (0:Int)<(k:Int) by omega),Zo1 (by omega) (by omega),Zt,hy,Option.bind_some]
    cases drv
    ·simp only [Bool.false_eq_true,if_false]
     refine ZlE (ZlM (fun _=>Zil (Ql _ _ _) (fun _=>ZlM (fun _=>Zxg (fun _=>ZlM (fun _=>ZlM (fun _=>ZlM (fun _=>Zil (Zdm _) (fun _=>Zxg (fun _=>ZBd)))))))))) ?_
     unfold Zmy
     rw [ZfM hp1,ZkU hk0 hy,Zp0]
     unfold Zs7 Ziw
     grind
    ·simp only [if_true]
     refine ZlE (ZlM (fun _=>Zil (Ql _ _ _) (fun _=>ZlM (fun _=>Zxg (fun _=>ZlM (fun _=>ZlM (fun _=>ZlM (fun _=>Zil (Zdm _) (fun _=>ZBd))))))))) ?_
     unfold Zmy
     rw [ZfM hp1,ZkU hk0 hy]
     unfold Zs7 Ziw
     grind
   ·rw [if_neg (show ¬(0:Int)<(k:Int) by omega)]
    cases drv
    ·simp only [Bool.false_eq_true,if_false]
     refine ZlE (Zil (Ql _ _ _) (fun _=>ZlM (fun _=>Zxg (fun _=>ZlM (fun _=>ZlM (fun _=>ZlM (fun _=>Zil (Zdm _) (fun _=>Zxg (fun _=>ZBd))))))))) ?_
     unfold Zmy
     rw [ZfM hp1,Zjk hk0,Zp0]
     unfold Zs7 Ziw
     grind
    ·simp only [if_true]
     refine ZlE (Zil (Ql _ _ _) (fun _=>ZlM (fun _=>Zxg (fun _=>ZlM (fun _=>ZlM (fun _=>ZlM (fun _=>Zil (Zdm _) (fun _=>ZBd)))))))) ?_
     unfold Zmy
     rw [ZfM hp1,Zjk hk0]
     unfold Zs7 Ziw
     grind)
  (fun _=>by simp only [Za2,Int.lt_irrefl,if_false]),Zm3]
 rfl
theorem Zu4 {s:Zn} (h:sm YR s):sm (.sl ZU) (Zn.YS s)∧sm (.sl Zx) (Zn.Qw s)∧sm (.sl Zx) (Zn.Xu s)∧sm (.sl ZA) (Zn.Exceptions s)∧sm (.sl ZW) (Zn.QJ s):=by
 refine ⟨?_,?_,?_,?_,?_⟩
 all_goals first | exact h.1 | exact h.2.1 | exact h.2.2.1 | exact h.2.2.2.1 | exact h.2.2.2.2.1
theorem ZzM {l:List Zf} (h:sm (.sl ZU) l):ZBj l:=by
 intro c hc
 have:=Zr9 h hc
 refine ZgU ?_
 first | exact this.1 | exact this.2.1
def Zw5 (pl:List Pl) (s:Zn):Prop :=
 Znh (Zn.YS s)∧(∀ c∈Zn.YS s,Zf.Place c<(pl.length:Int))∧Zir pl ((Zn.YS s).length:Int) true (Zn.Qw s)∧Zir pl ((Zn.YS s).length:Int) false (Zn.Xu s)∧
 (Zn.Exceptions s).length≤6∧(∀ e∈Zn.Exceptions s,Zq2 pl.length e)∧Zj1 (Zn.QJ s)
theorem Znh.place {l:List Zf} (h:Znh l) {c:Zf} (hc:c∈l):0≤Zf.Place c:=by
 obtain ⟨k,hk⟩:=List.mem_iff_getElem?.1 hc
 have h1:=h.2.1 k c (by have:=(List.getElem?_eq_some_iff.1 hk).1;omega) hk
 unfold Zi9 ZmE at h1
 simp only [Bool.and_eq_true,decide_eq_true_eq] at h1
 exact h1.1.1.1.1.1
theorem Zqb (v:Xo) (s:Zn) (h:sm YR s) (hn:(Xo.places v).length≤1048576):Zcj v s=some (tr (Zw5 (Xo.places v) s)):=by
 obtain ⟨a1,a2,a3,a4,a5⟩:=Zu4 h
 have s1:=Zo a1
 unfold Zcj
 rw [show Zby (Zn.YS s)=some ((Zn.YS s).length:Int) from rfl,Option.bind_some]
 refine Vm (YF (Zph _) (fun hC=>Zwa (P:=¬∀ c∈Zn.YS s,Zf.Place c<((Xo.places v).length:Int)) ?_ (fun _=>YF (Zf7 v _ true _ a2 hn (by omega) (by omega)) (fun _=>YF (Zf7 v _ false _ a3 hn (by omega) (by omega)) (fun _=>Zg6 (fun _=>Zwa (P:=¬∀ e∈Zn.Exceptions s,Zq2 (Xo.places v).length e) ?_ (fun _=>(?_:_=some (tr (Zj1 (Zn.QJ s))))))))))) ?_
 ·rw [XT (YT a1) (fun c=>!tr (0≤Zf.Place c∧Zf.Place c≤((Xo.places v).length:Int)-1)) (fun c _=>by
   unfold Vk
   show (VF v (Zf.Place c)).bind _=_
   rw [ZjO v _ hn];rfl)]
  refine JW ?_
  rw [List.any_eq_true]
  constructor
  ·rintro ⟨c,hc,hb⟩ hall
   have:=hall c hc
   have h0:=hC.place hc
   rw [Ye (by omega)] at hb
   cases hb
  ·intro hh
   apply Classical.byContradiction
   intro hne
   refine hh (fun c hc=>?_)
   apply Classical.byContradiction
   intro hlt
   exact hne ⟨c,hc,by rw [ZR (by omega)];rfl⟩
 ·rw [XA (YT a4) (fun e=>!tr (Zq2 (Xo.places v).length e)) (fun e he=>by
   unfold Vo
   show (QX v e).bind _=_
   rw [Ziu v e (Zr9 a4 he) hn];rfl)]
  refine JW ?_
  rw [List.any_eq_true]
  constructor
  ·rintro ⟨c,hc,hb⟩ hall
   rw [Ye (hall c hc)] at hb
   cases hb
  ·intro hh
   apply Classical.byContradiction
   intro hne
   refine hh (fun c hc=>?_)
   apply Classical.byContradiction
   intro hlt
   exact hne ⟨c,hc,by rw [ZR hlt];rfl⟩
 ·by_cases h0:(Zn.QJ s).length=0
  ·rw [if_pos (by omega)]
   refine JW ⟨fun _=>?_,fun _=>rfl⟩
   have:Zn.QJ s=[]:=List.eq_nil_of_length_eq_zero h0
   rw [this]
   exact ⟨by simp,fun c hc=>(by cases hc),fun j _ hj=>(by simp at hj)⟩
  ·rw [if_neg (by omega),Zlf _ a5 h0];rfl
 ·unfold Zw5
  simp only [Classical.not_not]
  constructor
  ·rintro ⟨q1,q2,q3,q4,q5,q6,q7⟩;exact ⟨q1,q2,q3,q4,by omega,q6,q7⟩
  ·rintro ⟨q1,q2,q3,q4,q5,q6,q7⟩;exact ⟨q1,q2,q3,q4,by omega,q6,q7⟩
def ZjY (b:Za) (s:Zn):Prop:=Zl9 b∧Zw5 (places (Za.Design b)) s
theorem Zho (b:Za) (s:Zn) (hb:sm YB b) (hs:sm YR s):ZfE b s=some (tr (ZjY b s)):=by
 unfold ZfE
 refine YF (Zkm b hb) (fun hB=>?_)
 obtain ⟨v,h1,h2,_⟩:=ZvC ⟨hB,hb⟩
 have hpl:=Y7 hB.1.few
 rw [h1,Option.bind_some,Zqb v s hs (by rw [h2];omega),h2];rfl
theorem Zhh (b:Za) (s:Zn) (hb:sm YB b) (hs:sm YR s):ZdT b s=some (tr (ZjY b s)):=by
 obtain ⟨a1,a2,a3,a4,a5⟩:=Zu4 hs
 have s1:=Zo a1
 have s4:=Zo a4
 unfold ZdT
 refine Vm (YF (Zec b hb) (fun hB=>YF (Zpi _ (ZzM a1) (by omega)) (fun hC=>Zg6 (fun _=>YF (Zny _ a5) (fun _=>(?_:_=some (tr (ZfU (Zn.YS s) (fun _ c=>Zf.Place c<((places (Za.Design b)).length:Int))∧ZfU (Zn.Exceptions s) (fun _ e=>Zq2 (places (Za.Design b)).length e)∧Zir (places (Za.Design b)) ((Zn.YS s).length:Int) true (Zn.Qw s)∧Zir (places (Za.Design b)) ((Zn.YS s).length:Int) false (Zn.Xu s))))))))) ?_
 ·have hf:=hB.1.few
  have hpl:=Y7 hf
  rw [QA (YT a1) (fun _ c=>Zf.Place c<((places (Za.Design b)).length:Int)) (bad:=false) (good:=tr (ZfU (Zn.Exceptions s) (fun _ e=>Zq2 (places (Za.Design b)).length e)∧Zir (places (Za.Design b)) ((Zn.YS s).length:Int) true (Zn.Qw s)∧Zir (places (Za.Design b)) ((Zn.YS s).length:Int) false (Zn.Xu s)))
   (fun k c hx hk _=>by
    simp only [Zez,show (k:Int)<((Zn.YS s).length:Int) from by omega,if_true,Zt,hx,Option.bind_some,Xe _ hf]
    constructor
    ·intro hh;rw [if_neg (by omega)]
    ·intro hh;rw [if_pos (by omega)])
   (fun _=>by
    simp only [Zez,Int.lt_irrefl,if_false]
    rw [QA (YT a4) (fun _ e=>Zq2 (places (Za.Design b)).length e) (bad:=.inr false) (good:=.inr (tr (Zir (places (Za.Design b)) ((Zn.YS s).length:Int) true (Zn.Qw s)∧Zir (places (Za.Design b)) ((Zn.YS s).length:Int) false (Zn.Xu s))))
     (fun k e hx hk _=>by
      simp only [Zef,show (k:Int)<((Zn.Exceptions s).length:Int) from by omega,if_true,Zt,hx,Option.bind_some,Zl8 b ⟨hB,hb⟩ e (Jd a4 hx)]
      constructor
      ·intro hh;rw [if_pos (Ye hh)]
      ·intro hh;rw [if_neg (fun q=>hh ((Xa _).1 q))])
     (fun _=>by
      simp only [Zef,Int.lt_irrefl,if_false,Zf5 b s _ _ a2 hf s1,Zf5 b s _ _ a3 hf s1,Option.bind_some]
      by_cases q1:Zir (places (Za.Design b)) ((Zn.YS s).length:Int) true (Zn.Qw s)
      ·rw [if_pos (Ye q1)]
       congr 3
       exact YI ⟨fun q=>⟨q1,q⟩,fun q=>q.2⟩
      ·rw [if_neg (fun q=>q1 ((Xa _).1 q)),ZR (fun q=>q1 q.1)])]
    congr 1
    by_cases q1:ZfU (Zn.Exceptions s) (fun _ e=>Zq2 (places (Za.Design b)).length e)
    ·rw [YX q1]
     congr 1
     exact YI ⟨fun q=>⟨q1,q⟩,fun q=>q.2⟩
    ·rw [YM q1,ZR (fun q=>q1 q.1)]),Zeu]
 ·unfold ZjY Zw5
  rw [JB,JB]
  constructor
  ·rintro ⟨q1,q2,q3,q4,q5,q6,q7,q8⟩;exact ⟨q1,q2,q5,q7,q8,by omega,q6,q4⟩
  ·rintro ⟨q1,q2,q5,q7,q8,q3,q6,q4⟩;exact ⟨q1,q2,by omega,q4,q5,q6,q7,q8⟩
end Go.Proofs.YtoefbkmllkpkkaaGreatDoor
