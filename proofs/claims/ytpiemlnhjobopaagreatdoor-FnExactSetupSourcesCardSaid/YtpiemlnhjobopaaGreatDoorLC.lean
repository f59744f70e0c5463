/-
  Plain laws: designs.
-/
import Derived.Test.YtpiemlnhjobopaaGreatDoorLB
import Derived.Test.YtpiemlnhjobopaaGreatDoorLA
namespace Go.Proofs.YtpiemlnhjobopaaGreatDoor
set_option linter.unusedVariables false
set_option linter.unusedSimpArgs false
open Go Go.Sx
theorem ZjM {d:Zf} (h:sm YN d):sm (.sl Z7) (Zf.Instances d)∧sm (.sl VH) (Zf.Xe d)∧sm (.sl .str) (Zf.XJ d):=by
 refine ⟨?_,?_,?_⟩
 ·first | exact h.1 | exact h.2.1 | exact h.2.2.1 | exact h.2.2.2.1
 ·first | exact h.1 | exact h.2.1 | exact h.2.2.1 | exact h.2.2.2.1
 ·first | exact h.1 | exact h.2.1 | exact h.2.2.1 | exact h.2.2.2.1
theorem Zpp {x:Zk} (h:sm Z7 x):sm .str (Zk.Name x)∧sm (.sl (.int .i64)) (Zk.XJ x):=by
 refine ⟨?_,?_⟩
 ·first | exact h.1 | exact h.2.1 | exact h.2.2.1 | exact h.2.2.2.1
 ·first | exact h.1 | exact h.2.1 | exact h.2.2.1 | exact h.2.2.2.1
theorem Zv4 {x:Ya} (h:sm VH x):sm .str (Ya.Name x):=by
 first | exact h.1 | exact h.2.1 | exact h.2.2.1 | exact h.2.2.2.1
theorem Zf8 (d:Zf) (h:sm YN d):Vv d=some (tr (ZiY d)):=by
 obtain ⟨h1,h2,h3⟩:=ZjM h
 have s1:=Zw h1
 have s2:=Zw h2
 have s3:=Zw h3
 unfold Vv
 refine gather (l:=Zf.Instances d) s1 Zk.Name (fun k x o hx hk ho=>?_) ?_
 ·simp only [Q0,hk,if_true,Zt,hx,Bq]
 simp only [Q0,Int.lt_irrefl,if_false]
 have hi:(Zee d).length=(Zf.Instances d).length:=by simp [Zee]
 have hp:(Zcb d).length=(Zf.Xe d).length:=by simp [Zcb]
 refine gather (l:=Zf.Xe d) s2 Ya.Name (fun k x o hx hk ho=>?_) ?_
 ·simp only [QZ,hk,if_true,Zt,hx,Bq]
 simp only [QZ,Int.lt_irrefl,if_false]
 rw [show List.map Ya.Name (Zf.Xe d)=Zcb d from rfl,show List.map Zk.Name (Zf.Instances d)=Zee d from rfl]
 simp only [hi,hp,Qa _ (show (Zee d).length≤4611686018427387904 by omega),Qa _ (show (Zcb d).length≤4611686018427387904 by omega),Qa _ (show (Zf.XJ d).length≤4611686018427387904 by omega),Bq]
 unfold ZiY
 rw [hi,hp]
 by_cases a:(Zf.Instances d).length≤14
 ·rw [if_pos (by omega)]
  by_cases b:(Zf.XJ d).length≤30
  ·rw [if_pos (by omega)]
   by_cases c:(Zf.Xe d).length≤8
   ·rw [if_pos (by omega)]
    by_cases e:Qp (Zee d) (Zf.Instances d).length
    ·rw [if_pos (Yl e)]
     by_cases f:Qp (Zf.XJ d) (Zf.XJ d).length
     ·rw [if_pos (Yl f)]
      congr 3
      exact YI ⟨fun q=>⟨a,b,c,e,f,q⟩,fun q=>q.2.2.2.2.2⟩
     ·rw [if_neg (by rw [ZK f];simp),ZK (fun q=>f q.2.2.2.2.1)]
    ·rw [if_neg (by rw [ZK e];simp),ZK (fun q=>e q.2.2.2.1)]
   ·rw [if_neg (by omega),ZK (fun q=>c q.2.2.1)]
  ·rw [if_neg (by omega),ZK (fun q=>b q.2.1)]
 ·rw [if_neg (by omega),ZK (fun q=>a q.1)]
def Zk6 (n:Nat) (s:List Int):List Int:=(List.range n).map (fun (j:Nat)=>((s.countP (fun x=>decide (x=(j:Int))):Nat):Int))
theorem ZhD (n:Nat) (s:List Int):(Zk6 n s).length=n:=by simp [Zk6]
theorem Zok (n:Nat):Zk6 n []=List.replicate n 0:=by
 apply List.ext_getElem?
 intro i
 simp only [Zk6,List.countP_nil,List.getElem?_map,List.getElem?_replicate,List.getElem?_range]
 by_cases h:i<n
 ·simp [h]
 ·simp [h]
theorem ZlI {n:Nat} {s:List Int} {j:Nat} (h:j<n):(Zk6 n s)[j]?=some ((s.countP (fun x=>decide (x=(j:Int))):Nat):Int):=by
 simp [Zk6,h]
theorem Zuc {n:Nat} {s:List Int} {x:Int} (h0:0≤x) (h1:x<(n:Int)):atI (Zk6 n s) x=some ((s.countP (fun y=>decide (y=x)):Nat):Int):=by
 refine ZeC h0 ?_
 rw [ZlI (by omega),show ((x.toNat:Nat):Int)=x by omega]
theorem Zta {n:Nat} {s:List Int} {x:Int} (h0:0≤x) (h1:x<(n:Int)):List.set (Zk6 n s) (Int.toNat x) (((s.countP (fun y=>decide (y=x)):Nat):Int)+1)=Zk6 n (s++[x]):=by
 apply List.ext_getElem?
 intro i
 rw [List.getElem?_set]
 by_cases hi:i<n
 ·rw [ZlI hi,ZlI hi,List.countP_append,ZhD]
  by_cases e:x.toNat=i
  ·subst e
   rw [if_pos rfl,if_pos (by omega),show ((x.toNat:Nat):Int)=x by omega]
   simp
  ·rw [if_neg e]
   have:¬x=(i:Int):=by omega
   simp [List.countP_cons,this]
 ·have h1:(Zk6 n s)[i]?=none:=by rw [List.getElem?_eq_none];rw [ZhD];omega
  have h2:(Zk6 n (s++[x]))[i]?=none:=by rw [List.getElem?_eq_none];rw [ZhD];omega
  rw [h1,h2]
  split
  ·split
   ·rename_i h3;rw [ZhD] at h3;omega
   ·rfl
  ·rfl
theorem Zhd {n:Nat} {s:List Int} {x:Int} (h0:0≤x) (h1:x<(n:Int)) (hs:s.length≤1048576000) {τ:Type} (F:List Int→Option τ) :
  ((atI (Zk6 n s) x).bind fun y=>F (List.set (Zk6 n s) (Int.toNat x) (Wq (y+1))))=F (Zk6 n (s++[x])):=by
 have h2:=List.countP_le_length (p:=fun y=>decide (y=x)) (l:=s)
 rw [Zuc h0 h1,Bq,Vq (by omega) (by omega),Zta h0 h1]
def Zb2 (x:Zk):Int:=(Zk.XJ x).getLastD 0
def ZoR (d:Zf) (n:Int):Prop:=0≤n∧n≤((Zf.XJ d).length:Int)-1
def Zh2 (a:Zu) (d:Zf) (x:Zk):Prop :=
 (0≤Zk.Cell x∧Zk.Cell x≤((Zu.Cells a).length:Int)-1)∧(∃ c,(Zu.Cells a)[(Zk.Cell x).toNat]?=some c∧(Zk.XJ x).length=(Zi.YB c).length)∧∀ n∈Zk.XJ x,ZoR d n
def Zh4 (d:Zf) (p:Ya):Prop:=(1≤Ya.Dir p∧Ya.Dir p≤2)∧ZoR d (Ya.Net p)
def Zzi (d:Zf):List Int:=(Zf.Instances d).map Zb2++((Zf.Xe d).filter (fun p=>decide (Ya.Dir p=1))).map Ya.Net
def ZiZ (d:Zf):Prop:=∀ x∈Zk6 (Zf.XJ d).length (Zzi d),x=1
def ZcP (a:Zu) (d:Zf):Prop:=ZpD a∧ZiY d∧(∀ x∈Zf.Instances d,Zh2 a d x)∧(∀ p∈Zf.Xe d,Zh4 d p)∧ZiZ d
theorem Zh2.last {a:Zu} {d:Zf} {x:Zk} (h:Zh2 a d x) (hl:ZpD a) (hsm:(Zk.XJ x).length≤1048576):atI (Zk.XJ x) (Wq (((Zk.XJ x).length:Int)-1))=some (Zb2 x)∧ZoR d (Zb2 x):=by
 obtain ⟨_,⟨c,hc,hn⟩,hall⟩:=h
 have h2:2≤(Zi.YB c).length:=(hl.2.1 c (List.mem_of_getElem? hc)).2.1.1
 unfold Zb2
 cases hN:Zk.XJ x with
 | nil=>rw [hN] at hn;simp at hn;omega
 | cons y r =>
  rw [hN] at hsm
  rw [ZkM hsm (by simp),Zt]
  have e:(y::r)[(y::r).length-1]?=some ((y::r).getLastD 0):=by
   rw [←List.getLast?_eq_getElem?,List.getLastD_eq_getLast?,List.getLast?_cons];rfl
  exact ⟨e,hall _ (by rw [hN];exact List.mem_of_getElem? e)⟩
theorem ZdA (d:Zf) (n:Int) (h:sm YN d):XT d n=some (tr (ZoR d n)):=by
 have s3:=Zw (ZjM h).2.2
 unfold XT
 rw [show ZbZ (Zf.XJ d)=some ((Zf.XJ d).length:Int) from rfl,Bq,Vq (by omega) (by omega)]
 exact Zcv (XC _ _ _)
theorem Zfd (d:Zf) (a:Zu) (x:Zk) (hd:sm YN d) (ha:sm YD a) (hx:sm Z7 x):QN d a x=some (tr (Zh2 a d x)):=by
 have sa:=Zw (ZtH ha)
 unfold QN
 rw [show JQ (Zu.Cells a)=some ((Zu.Cells a).length:Int) from rfl,Bq,Vq (by omega) (by omega)]
 refine Zcx (P:=(0≤Zk.Cell x∧Zk.Cell x≤((Zu.Cells a).length:Int)-1)∧Zh2 a d x) (Yx (XC _ _ _) (fun hw=>?_)) ⟨fun q=>q.2,fun q=>⟨q.1,q⟩⟩
 obtain ⟨c,hc1,hc2⟩:=ZlV hw.1 (show Zk.Cell x<((Zu.Cells a).length:Int) by omega)
 rw [hc1,Bq]
 refine Zcx (P:=((Zk.XJ x).length:Int)=((Zi.YB c).length:Int)∧∀ n∈Zk.XJ x,ZoR d n) (Xf (fun he=>?_)) ?_
 ·rw [Xt (Yv (Zpp hx).2) (fun n=>!tr (ZoR d n)) (fun n _=>by
   unfold Xg
   show (XT d n).bind _=_
   rw [ZdA d n hd];rfl),Bq]
  refine ZaF ?_
  rw [Bool.not_eq_true',List.any_eq_false]
  constructor
  ·intro q n hn
   have:=q n hn
   simp only [Bool.not_eq_true',Bool.not_eq_false] at this
   exact (Qx _).1 this
  ·intro q n hn
   simp only [Bool.not_eq_true',Bool.not_eq_false]
   exact Yl (q n hn)
 ·constructor
  ·rintro ⟨q1,q2⟩;exact ⟨hw,⟨c,hc2,by omega⟩,q2⟩
  ·rintro ⟨_,⟨c',q1,q2⟩,q3⟩
   rw [hc2] at q1;injection q1 with q1;subst q1
   exact ⟨by omega,q3⟩
theorem Zqk {d:Zf} {k:Nat} {p:Ya} (hx:(Zf.Xe d)[k]?=some p) (s:List Int) :
  s++(((Zf.Xe d).take (k+1)).filter (fun p=>decide (Ya.Dir p=1))).map Ya.Net=(if Ya.Dir p=1 then (s++(((Zf.Xe d).take k).filter (fun p=>decide (Ya.Dir p=1))).map Ya.Net)++[Ya.Net p] else s++(((Zf.Xe d).take k).filter (fun p=>decide (Ya.Dir p=1))).map Ya.Net):=by
 rw [YP hx,List.filter_append,List.map_append]
 by_cases h:Ya.Dir p=1
 ·rw [if_pos h];simp [h]
 ·rw [if_neg h];simp [h]
theorem ZrV {d:Zf} (k m:Nat):(((Zf.Instances d).take m).map Zb2++(((Zf.Xe d).take k).filter (fun p=>decide (Ya.Dir p=1))).map Ya.Net).length≤(Zf.Instances d).length+(Zf.Xe d).length:=by
 have h:=List.length_filter_le (fun p=>decide (Ya.Dir p=1)) ((Zf.Xe d).take k)
 simp only [List.length_append,List.length_map,List.length_take] at h ⊢
 omega
theorem Zla (a:Zu) (d:Zf) (ha:sm YD a) (hd:sm YN d):ZdJ a d=some (tr (ZcP a d)):=by
 obtain ⟨h1,h2,h3⟩:=ZjM hd
 have s1:=Zw h1
 have s2:=Zw h2
 have s3:=Zw h3
 unfold ZdJ
 refine Zcx (P:=ZpD a∧ZiY d∧(Zev (Zf.Instances d) (fun _ x=>Zh2 a d x)∧(Zev (Zf.Xe d) (fun _ p=>Zh4 d p)∧ZiZ d))) (Yx (Zj2 a ha) (fun hL=>Yx (Zf8 d hd) (fun hN=>?_))) (by rw [Q6,Q6];exact Iff.rfl)
 rw [Zj (by omega),Zj (by omega),Zj (by omega),Zj (by omega)]
 have:=Zgn (l:=Zf.Instances d) (ρ:=Bool) (fun k=>((k:Int),Zk6 (Zf.XJ d).length (((Zf.Instances d).take k).map Zb2),())) (fun _ x=>Zh2 a d x) (step:=fun v=>V3 a d v.1 v.2.1) (bad:=false) (good:=tr (Zev (Zf.Xe d) (fun _ p=>Zh4 d p)∧ZiZ d))
  (fun k x hx hk _=>by
   have hsx:=Zfx h1 hx
   simp only [V3,show (k:Int)<((Zf.Instances d).length:Int) from by omega,if_true,Zt,hx,Bq,Zfd d a x hd ha hsx]
   constructor
   ·intro hh
    obtain ⟨e1,e2⟩:=hh.last hL (Zw (Zpp hsx).2)
    rw [if_pos (Yl hh),e1,Bq,Zhd e2.1 (by have:=e2.2;omega) (by simp only [List.length_map,List.length_take];omega) (F:=fun o=>some (Sum.inl (Wq ((k:Int)+1),o,()))),YP hx,List.map_append,VI (by omega)]
    rfl
   ·intro hh;rw [if_neg (by rw [ZK hh];simp)])
  (fun hA=>by
   simp only [V3,Int.lt_irrefl,if_false,List.take_length]
   have:=Zgn (l:=Zf.Xe d) (ρ:=Int×List Int×Unit ⊕ Bool) (fun k=>((k:Int),Zk6 (Zf.XJ d).length ((Zf.Instances d).map Zb2++(((Zf.Xe d).take k).filter (fun p=>decide (Ya.Dir p=1))).map Ya.Net),())) (fun _ p=>Zh4 d p) (step:=fun v=>QG d v.1 v.2.1) (bad:=.inr false) (good:=.inr (tr (ZiZ d)))
    (fun k p hx hk _=>by
     have hl:=ZrV (d:=d) k (Zf.Instances d).length
     rw [List.take_length] at hl
     simp only [QG,show (k:Int)<((Zf.Xe d).length:Int) from by omega,if_true,Zt,hx,Bq,ZdA d _ hd,Zqk hx]
     by_cases d1:Ya.Dir p=1
     ·simp only [d1,if_true]
      constructor
      ·intro hh
       rw [if_pos (Yl hh.2),Zhd hh.2.1 (by have:=hh.2.2;omega) (by omega) (F:=fun o=>some (Sum.inl (Wq ((k:Int)+1),o,()))),VI (by omega)]
      ·intro hh
       rw [if_neg (by rw [ZK (fun q=>hh ⟨by omega,q⟩)];simp)]
     ·simp only [d1,if_false]
      by_cases d2:Ya.Dir p=2
      ·simp only [d2,if_true]
       constructor
       ·intro hh
        rw [if_pos (Yl hh.2),VI (by omega)]
       ·intro hh
        rw [if_neg (by rw [ZK (fun q=>hh ⟨by omega,q⟩)];simp)]
      ·simp only [d2,if_false]
       exact ⟨fun hh=>by have:=hh.1;omega,fun _=>trivial⟩)
    (fun _=>by
     simp only [QG,Int.lt_irrefl,if_false,List.take_length]
     rw [QJ (show Len _ by show List.length _≤_;rw [ZhD];omega) (fun n=>!decide (n=1)) (fun n _=>rfl),Bq]
     congr 3
     refine (ZlF ?_).symm
     rw [Bool.not_eq_true',List.any_eq_false]
     simp only [Bool.not_eq_true',Bool.not_eq_false,decide_eq_true_eq,decide_eq_false_iff_not,Classical.not_not]
     exact Iff.rfl)
   refine (show Zr (fun v=>QG d v.1 v.2.1) ((0:Int),Zk6 (Zf.XJ d).length ((Zf.Instances d).map Zb2),())=_ from (by simpa using this)).trans ?_
   by_cases hP:Zev (Zf.Xe d) (fun _ p=>Zh4 d p)
   ·rw [Y3 hP];congr 2;exact YI ⟨fun q=>⟨hP,q⟩,fun q=>q.2⟩
   ·rw [YH hP,ZK (fun q=>hP q.1)])
 rw [Zce] at this
 refine Eq.trans ?_ this
 rw [List.take_zero,List.map_nil,Zok]
 rfl
/-
  Plain laws: designs by the reference; places.
-/
theorem ZlC (a:Zu) (d:Zf) (ha:sm YD a) (hd:sm YN d):ZdU a d=some (tr (Zev (Zf.Instances d) (fun _ x=>Zh2 a d x)∧Zev (Zf.Xe d) (fun _ p=>Zh4 d p))):=by
 obtain ⟨h1,h2,h3⟩:=ZjM hd
 have s1:=Zw h1
 have s2:=Zw h2
 have s3:=Zw h3
 have sa:=Zw (ZtH ha)
 have e1:Wq (((Zf.XJ d).length:Int)-1)=((Zf.XJ d).length:Int)-1:=Vq (by omega) (by omega)
 have e2:Wq (((Zu.Cells a).length:Int)-1)=((Zu.Cells a).length:Int)-1:=Vq (by omega) (by omega)
 unfold ZdU
 rw [Qc (Yv h1) (fun _ x=>Zh2 a d x) (bad:=false) (good:=tr (Zev (Zf.Xe d) (fun _ p=>Zh4 d p)))
  (fun k x hx hk _=>by
   have hsx:=Zfx h1 hx
   simp only [Zby,show (k:Int)<((Zf.Instances d).length:Int) from by omega,if_true,Zt,hx,Bq,QO,e2]
   by_cases hc:0≤Zk.Cell x∧Zk.Cell x≤((Zu.Cells a).length:Int)-1
   ·obtain ⟨c,hc1,hc2⟩:=ZlV hc.1 (show Zk.Cell x<((Zu.Cells a).length:Int) by omega)
    rw [if_pos (Yl hc),hc1,Bq]
    by_cases hp:((Zk.XJ x).length:Int)=((Zi.YB c).length:Int)
    ·rw [if_pos hp,Qc (Yv (Zpp hsx).2) (fun _ n=>ZoR d n) (bad:=.inr false) (good:=.inl (Wq ((k:Int)+1),()))
      (fun j n hn hj _=>by
       simp only [Zbw,show (j:Int)<((Zk.XJ x).length:Int) from by omega,if_true,Zt,hn,Bq,QO,e1]
       constructor
       ·intro hh;exact if_pos (Yl hh)
       ·intro hh;exact if_neg (fun q=>hh ((Qx _).1 q)))
      (fun _=>by simp only [Zbw,Int.lt_irrefl,if_false])]
     constructor
     ·intro hh;rw [Y3 (Q6.2 hh.2.2)]
     ·intro hh;rw [YH (fun q=>hh ⟨hc,⟨c,hc2,by omega⟩,Q6.1 q⟩)]
    ·rw [if_neg hp]
     refine ⟨fun hh=>?_,fun _=>rfl⟩
     obtain ⟨_,⟨c',q1,q2⟩,_⟩:=hh
     rw [hc2] at q1;injection q1 with q1;subst q1
     exact absurd (by omega) hp
   ·rw [if_neg (by rw [ZK hc];simp)]
    exact ⟨fun hh=>absurd hh.1 hc,fun _=>rfl⟩)
  (fun _=>by
   simp only [Zby,Int.lt_irrefl,if_false]
   rw [Qc (Yv h2) (fun _ p=>Zh4 d p) (bad:=.inr false) (good:=.inr true)
    (fun k p hx hk _=>by
     simp only [Zbx,show (k:Int)<((Zf.Xe d).length:Int) from by omega,if_true,Zt,hx,Bq,QO,e1]
     by_cases hc:1≤Ya.Dir p∧Ya.Dir p≤2
     ·rw [if_pos (Yl hc)]
      constructor
      ·intro hh;exact if_pos (Yl hh.2)
      ·intro hh;exact if_neg (fun q=>hh ⟨hc,(Qx _).1 q⟩)
     ·rw [if_neg (by rw [ZK hc];simp)]
      exact ⟨fun hh=>absurd hh.1 hc,fun _=>rfl⟩)
    (fun _=>by simp only [Zbx,Int.lt_irrefl,if_false])]
   congr 1
   by_cases hh:Zev (Zf.Xe d) (fun _ p=>Zh4 d p)
   ·rw [Y3 hh,Yl hh]
   ·rw [YH hh,ZK hh])]
 rw [Zce]
theorem ZqC {α:Type} {l:List α} {f:α→List UInt8} (h:∀ x∈l,(f x).length≤4611686018427387904):∀ s∈l.map f,s.length≤4611686018427387904:=by
 intro s hs
 obtain ⟨x,hx,rfl⟩:=List.mem_map.1 hs
 exact h x hx
theorem ZlA (a:Zu) (d:Zf) (ha:sm YD a) (hd:sm YN d):ZdS a d=some (tr (ZcP a d)):=by
 obtain ⟨h1,h2,h3⟩:=ZjM hd
 have s1:=Zw h1
 have s2:=Zw h2
 have s3:=Zw h3
 unfold ZdS
 refine Zcx (Yx (ZkJ a ha) (fun hL=>Zd6 (fun a1=>Zd6 (fun a2=>Zd6 (fun a3=>Yx (ZlC a d ha hd) (fun hP=>?_))))))
  (P:=ZpD a∧¬(14:Int)<((Zf.Instances d).length:Int)∧¬(30:Int)<((Zf.XJ d).length:Int)∧¬(8:Int)<((Zf.Xe d).length:Int)∧(Zev (Zf.Instances d) (fun _ x=>Zh2 a d x)∧Zev (Zf.Xe d) (fun _ p=>Zh4 d p))∧(Qp (Zee d) (Zee d).length∧Qp (Zcb d) (Zcb d).length∧Qp (Zf.XJ d) (Zf.XJ d).length)∧ZiZ d) ?_
 ·have hi:(Zee d).length=(Zf.Instances d).length:=by simp [Zee]
  have hp:(Zcb d).length=(Zf.Xe d).length:=by simp [Zcb]
  refine gather (l:=Zf.Instances d) s1 Zk.Name (fun k x o hx hk ho=>?_) ?_
  ·simp only [Zbt,hk,if_true,Zt,hx,Bq]
  simp only [Zbt,Int.lt_irrefl,if_false]
  refine gather (l:=Zf.Xe d) s2 Ya.Name (fun k x o hx hk ho=>?_) ?_
  ·simp only [Zbs,hk,if_true,Zt,hx,Bq]
  simp only [Zbs,Int.lt_irrefl,if_false]
  rw [show List.map Ya.Name (Zf.Xe d)=Zcb d from rfl,show List.map Zk.Name (Zf.Instances d)=Zee d from rfl]
  simp only [Zdv (Zee d) (by omega) (ZqC (fun x hx=>Zeu (Zpp (Zn2 h1 hx)).1)),Zdv (Zcb d) (by omega) (ZqC (fun x hx=>Zeu (Zv4 (Zn2 h2 hx)))),Zdv (Zf.XJ d) (by omega) (fun s hs=>Zeu (Zn2 h3 hs)),Bq]
  by_cases n1:Qp (Zee d) (Zee d).length
  ·rw [if_pos (Yl n1)]
   by_cases n2:Qp (Zcb d) (Zcb d).length
   ·rw [if_pos (Yl n2)]
    by_cases n3:Qp (Zf.XJ d) (Zf.XJ d).length
    ·rw [if_pos (Yl n3),Zj (by omega),Zj (by omega),Zj (by omega),Zj (by omega)]
     have:=J6 (l:=Zf.Instances d) (ρ:=(List (List UInt8))×Int×Unit ⊕ ((List (List UInt8))×Int×Unit ⊕ Bool)) (fun k=>((k:Int),Zk6 (Zf.XJ d).length (((Zf.Instances d).take k).map Zb2),())) (step:=fun v=>QL d v.1 v.2.1) (good:=.inr (.inr (tr (ZiZ d))))
      (fun k x hx hk=>by
       have hsx:=Zfx h1 hx
       obtain ⟨e1,e2⟩:=(hP.1 k x hx).last hL (Zw (Zpp hsx).2)
       simp only [QL,show (k:Int)<((Zf.Instances d).length:Int) from by omega,if_true,Zt,hx,Bq]
       rw [e1,Bq,Zhd e2.1 (by have:=e2.2;omega) (by simp only [List.length_map,List.length_take];omega) (F:=fun o=>some (Sum.inl (Wq ((k:Int)+1),o,()))),YP hx,List.map_append,VI (by omega)]
       rfl)
      (by
       simp only [QL,Int.lt_irrefl,if_false,List.take_length]
       have:=J6 (l:=Zf.Xe d) (ρ:=Int×List Int×Unit ⊕ ((List (List UInt8))×Int×Unit ⊕ ((List (List UInt8))×Int×Unit ⊕ Bool))) (fun k=>((k:Int),Zk6 (Zf.XJ d).length ((Zf.Instances d).map Zb2++(((Zf.Xe d).take k).filter (fun p=>decide (Ya.Dir p=1))).map Ya.Net),())) (step:=fun v=>QK d v.1 v.2.1) (good:=.inr (.inr (.inr (tr (ZiZ d)))))
        (fun k p hx hk=>by
         have hl:=ZrV (d:=d) k (Zf.Instances d).length
         rw [List.take_length] at hl
         have hpo:=hP.2 k p hx
         simp only [QK,show (k:Int)<((Zf.Xe d).length:Int) from by omega,if_true,Zt,hx,Bq,Zqk hx]
         by_cases d1:Ya.Dir p=1
         ·simp only [d1,if_true]
          rw [Zhd hpo.2.1 (by have:=hpo.2.2;omega) (by omega) (F:=fun o=>some (Sum.inl (Wq ((k:Int)+1),o,()))),VI (by omega)]
         ·simp only [d1,if_false]
          rw [VI (by omega)])
        (by
         simp only [QK,Int.lt_irrefl,if_false,List.take_length]
         rw [Qc (l:=Zk6 (Zf.XJ d).length ((Zf.Instances d).map Zb2++((Zf.Xe d).filter (fun p=>decide (Ya.Dir p=1))).map Ya.Net)) (show List.length _≤_ by rw [ZhD];omega) (fun _ x=>x=1) (bad:=.inr (.inr (.inr (.inr false)))) (good:=.inr (.inr (.inr (.inr true))))
          (fun k x hx hk _=>by
           simp only [Zbr,show (k:Int)<((Zk6 (Zf.XJ d).length ((Zf.Instances d).map Zb2++((Zf.Xe d).filter (fun p=>decide (Ya.Dir p=1))).map Ya.Net)).length:Int) from by omega,if_true,Zt,hx,Bq]
           constructor
           ·intro hh;rw [if_pos hh]
           ·intro hh;rw [if_neg hh])
          (fun _=>by simp only [Zbr,Int.lt_irrefl,if_false])]
         congr 1
         have e:Zev (Zk6 (Zf.XJ d).length ((Zf.Instances d).map Zb2++((Zf.Xe d).filter (fun p=>decide (Ya.Dir p=1))).map Ya.Net)) (fun _ x=>x=1)↔ZiZ d:=by
          rw [Q6];exact Iff.rfl
         by_cases hh:ZiZ d
         ·rw [Y3 (e.2 hh),Yl hh]
         ·rw [YH (fun q=>hh (e.1 q)),ZK hh])
       refine (show Zr (fun v=>QK d v.1 v.2.1) ((0:Int),Zk6 (Zf.XJ d).length ((Zf.Instances d).map Zb2),())=_ from (by simpa using this)).trans ?_
       rfl)
     rw [List.take_zero,List.map_nil,Zok] at this
     refine (show Zr (fun v=>QL d v.1 v.2.1) ((0:Int),List.replicate (Zf.XJ d).length 0,())=_ from this).trans ?_
     congr 3
     exact YI ⟨fun q=>⟨⟨n1,n2,n3⟩,q⟩,fun q=>q.2⟩
    ·rw [if_neg (by rw [ZK n3];simp),ZK (fun q=>n3 q.1.2.2)]
   ·rw [if_neg (by rw [ZK n2];simp),ZK (fun q=>n2 q.1.2.1)]
  ·rw [if_neg (by rw [ZK n1];simp),ZK (fun q=>n1 q.1.1)]
 ·unfold ZcP ZiY
  rw [Q6,Q6]
  constructor
  ·rintro ⟨q1,q2,q3,q4,⟨q5,q6⟩,⟨q7,q8,q9⟩,q10⟩
   exact ⟨q1,⟨by omega,by omega,by omega,q7,q9,q8⟩,q5,q6,q10⟩
  ·rintro ⟨q1,⟨q2,q3,q4,q7,q9,q8⟩,q5,q6,q10⟩
   exact ⟨q1,by omega,by omega,by omega,⟨q5,q6⟩,⟨q7,q8,q9⟩,q10⟩
/-
  Plain laws: places, sinks, wires.
-/
def cat {α β:Type} (f:Nat→α→List β):Nat→List α→List β
 | _,[]=>[]
 | k,x::r=>f k x++cat f (k+1) r
theorem ZnM {α β:Type} (f:Nat→α→List β):∀ (l r:List α) (m:Nat),cat f m (l++r)=cat f m l++cat f (m+l.length) r
 | [],r,m=>by simp [cat]
 | x::l,r,m=>by
  simp only [List.cons_append,cat,List.length_cons,ZnM f l r,List.append_assoc]
  rw [show m+1+l.length=m+(l.length+1) by omega]
theorem Zs8 {α β:Type} {f:Nat→α→List β} {l:List α} {k:Nat} {x:α} (hx:l[k]?=some x):cat f 0 (l.take (k+1))=cat f 0 (l.take k)++f k x:=by
 have hk:=(List.getElem?_eq_some_iff.1 hx).1
 rw [YP hx,ZnM]
 simp only [cat,Nat.zero_add,List.length_take,List.append_nil]
 rw [show min k l.length=k by omega]
theorem Zhq {α β:Type} {f:Nat→α→List β} {y:β}:∀ {l:List α} {m:Nat},y∈cat f m l↔∃ (k:Nat) (x:α),l[k]?=some x∧y∈f (m+k) x
 | [],m=>by simp [cat]
 | z::r,m=>by
  simp only [cat,List.mem_append,Zhq (l:=r)]
  constructor
  ·rintro (h | ⟨k,x,h1,h2⟩)
   ·exact ⟨0,z,rfl,h⟩
   ·exact ⟨k+1,x,by simpa using h1,by rw [show m+(k+1)=m+1+k by omega];exact h2⟩
  ·rintro ⟨k,x,h1,h2⟩
   cases k with
   | zero=>simp at h1;subst h1;exact .inl h2
   | succ k=>exact .inr ⟨k,x,by simpa using h1,by rw [show m+1+k=m+(k+1) by omega];exact h2⟩
theorem Ziq {α β:Type} {f:Nat→α→List β} {c:Nat}:∀ {l:List α} {m:Nat},(∀ k,∀ x∈l,(f k x).length≤c)→(cat f m l).length≤c*l.length
 | [],m,_=>by simp [cat]
 | z::r,m,h=>by
  simp only [cat,List.length_append,List.length_cons]
  have h1:=h m z (by simp)
  have h2:=Ziq (f:=f) (l:=r) (m:=m+1) (fun k x hx=>h k x (by simp [hx]))
  rw [Nat.mul_add];omega
theorem ZbC {α β ρ:Type} {l:List α} (f:Nat→α→List β) (acc:List β) {step:List β×Int×Unit→Option ((List β×Int×Unit) ⊕ ρ)} {good:ρ}
  (hs:∀ (k:Nat) (x:α),l[k]?=some x→k<l.length→step (acc++cat f 0 (l.take k),(k:Int),())=some (.inl ((acc++cat f 0 (l.take k))++f k x,((k+1:Nat):Int),())))
  (hx:step (acc++cat f 0 l,(l.length:Int),())=some (.inr good)):Zr step (acc,(0:Int),())=some good:=by
 have:=J6 (l:=l) (ρ:=ρ) (fun k=>(acc++cat f 0 (l.take k),(k:Int),())) (step:=step) (good:=good) (fun k x hx hk=>by
  rw [hs k x hx hk,Zs8 hx,List.append_assoc]) (by simp only [List.take_length];exact hx)
 simpa [cat] using this
abbrev Pl:=Int×Int×Int×Bool×Unit
def Zjg (i:Nat) (x:Zk):List Pl:=cat (fun j n=>[((i:Int),(j:Int),n,decide ((j:Int)=Wq (((Zk.XJ x).length:Int)-1)),())]) 0 (Zk.XJ x)
def ZkV (j:Nat) (p:Ya):List Pl:=[((-1:Int),(j:Int),Ya.Net p,decide (Ya.Dir p=1),())]
def places (d:Zf):List Pl:=cat Zjg 0 (Zf.Instances d)++cat ZkV 0 (Zf.Xe d)
theorem Zq0 (i:Nat) (x:Zk):(Zjg i x).length≤(Zk.XJ x).length:=by
 have:=Ziq (f:=fun j n=>[((i:Int),(j:Int),n,decide ((j:Int)=Wq (((Zk.XJ x).length:Int)-1)),())]) (c:=1) (l:=Zk.XJ x) (m:=0) (fun _ _ _=>by simp)
 simpa [Zjg] using this
structure Few (d:Zf):Prop where
 insts:(Zf.Instances d).length≤14
 ports:(Zf.Xe d).length≤8
 nets:∀ x∈Zf.Instances d,(Zk.XJ x).length≤5
theorem ZcP.few {a:Zu} {d:Zf} (h:ZcP a d):Few d:=by
 refine ⟨h.2.1.1,h.2.1.2.2.1,fun x hx=>?_⟩
 obtain ⟨_,⟨c,hc,hn⟩,_⟩:=h.2.2.1 x hx
 have:=(h.1.2.1 c (List.mem_of_getElem? hc)).2.1.2.1
 omega
theorem Zde {d:Zf} (h:Few d) (k:Nat):(cat Zjg 0 ((Zf.Instances d).take k)).length≤70:=by
 have:=Ziq (f:=Zjg) (c:=5) (l:=(Zf.Instances d).take k) (m:=0) (fun i x hx=>by
  have h1:=Zq0 i x
  have h2:=h.nets x (List.mem_of_mem_take hx)
  omega)
 have h1:=h.insts
 rw [List.length_take] at this
 omega
theorem Zhb {d:Zf} (h:Few d) (k:Nat):(cat ZkV 0 ((Zf.Xe d).take k)).length≤8:=by
 have:=Ziq (f:=ZkV) (c:=1) (l:=(Zf.Xe d).take k) (m:=0) (fun i x hx=>by simp [ZkV])
 have h1:=h.ports
 rw [List.length_take] at this
 omega
theorem Jr {d:Zf} (h:Few d):(places d).length≤78:=by
 have h1:=Zde h (Zf.Instances d).length
 have h2:=Zhb h (Zf.Xe d).length
 rw [List.take_length] at h1 h2
 unfold places
 rw [List.length_append];omega
theorem Vd (d:Zf) (h:Few d):Xw d=some (places d):=by
 have h1:=h.insts
 have h2:=h.ports
 unfold Xw
 refine ZbC (l:=Zf.Instances d) Zjg [] (fun k x hx hk=>?_) ?_
 ·have hn:=h.nets x (List.mem_of_getElem? hx)
  have hl:=Zde h k
  simp only [List.nil_append,VD,show (k:Int)<((Zf.Instances d).length:Int) from by omega,if_true,Zt,hx,Bq]
  refine ZbC (l:=Zk.XJ x) (fun j n=>[((k:Int),(j:Int),n,decide ((j:Int)=Wq (((Zk.XJ x).length:Int)-1)),())]) _ (fun j n hj hk'=>?_) ?_
  ·have hl2:=Ziq (f:=fun j n=>[((k:Int),(j:Int),n,decide ((j:Int)=Wq (((Zk.XJ x).length:Int)-1)),())]) (c:=1) (l:=(Zk.XJ x).take j) (m:=0) (fun _ _ _=>by simp)
   rw [List.length_take] at hl2
   simp only [VA,show (j:Int)<((Zk.XJ x).length:Int) from by omega,if_true,Zt,hj,Bq]
   rw [Zj (by rw [List.length_append,List.length_singleton];omega),VI (by omega)]
  ·simp only [VA,Int.lt_irrefl,if_false]
   rw [VI (by omega)];rfl
 ·have hl:=Zde h (Zf.Instances d).length
  rw [List.take_length] at hl
  simp only [List.nil_append,VD,Int.lt_irrefl,if_false]
  refine ZbC (l:=Zf.Xe d) ZkV _ (fun j p hj hk'=>?_) ?_
  ·have hl2:=Zhb h j
   simp only [VB,show (j:Int)<((Zf.Xe d).length:Int) from by omega,if_true,Zt,hj,Bq]
   rw [Zj (by rw [List.length_append,List.length_singleton];omega),VI (by omega)];rfl
  ·simp only [VB,Int.lt_irrefl,if_false];rfl
theorem ZaC (d:Zf) (h:Few d):Vp d=some (places d):=by
 have h1:=h.insts
 have h2:=h.ports
 unfold Vp
 refine ZbC (l:=Zf.Instances d) Zjg [] (fun k x hx hk=>?_) ?_
 ·have hn:=h.nets x (List.mem_of_getElem? hx)
  have hl:=Zde h k
  simp only [List.nil_append,ZaR,show (k:Int)<((Zf.Instances d).length:Int) from by omega,if_true,Zt,hx,Bq]
  refine ZbC (l:=Zk.XJ x) (fun j n=>[((k:Int),(j:Int),n,decide ((j:Int)=Wq (((Zk.XJ x).length:Int)-1)),())]) _ (fun j n hj hk'=>?_) ?_
  ·have hl2:=Ziq (f:=fun j n=>[((k:Int),(j:Int),n,decide ((j:Int)=Wq (((Zk.XJ x).length:Int)-1)),())]) (c:=1) (l:=(Zk.XJ x).take j) (m:=0) (fun _ _ _=>by simp)
   rw [List.length_take] at hl2
   simp only [ZaP,show (j:Int)<((Zk.XJ x).length:Int) from by omega,if_true,Zt,hj,Bq]
   rw [Zj (by rw [List.length_append,List.length_singleton];omega),VI (by omega)]
  ·simp only [ZaP,Int.lt_irrefl,if_false]
   rw [VI (by omega)];rfl
 ·have hl:=Zde h (Zf.Instances d).length
  rw [List.take_length] at hl
  simp only [List.nil_append,ZaR,Int.lt_irrefl,if_false]
  refine ZbC (l:=Zf.Xe d) ZkV _ (fun j p hj hk'=>?_) ?_
  ·have hl2:=Zhb h j
   simp only [ZaQ,show (j:Int)<((Zf.Xe d).length:Int) from by omega,if_true,Zt,hj,Bq]
   rw [Zj (by rw [List.length_append,List.length_singleton];omega),VI (by omega)];rfl
  ·simp only [ZaQ,Int.lt_irrefl,if_false];rfl
def ZkH (net:Int) (i:Nat) (x:Pl):List Int:=if x.2.2.1=net then (if x.2.2.2.1=true then [] else [(i:Int)]) else []
def sinks (d:Zf) (net:Int):List Int:=cat (ZkH net) 0 (places d)
theorem ZmU (net:Int) (l:List Pl) (m:Nat):(cat (ZkH net) m l).length≤l.length:=by
 have:=Ziq (f:=ZkH net) (c:=1) (l:=l) (m:=m) (fun i x _=>by
  unfold ZkH;split
  ·split<;>simp
  ·simp)
 omega
theorem ZhN (d:Zf) (net:Int) (h:Few d):Zan d net=some (sinks d net):=by
 have hp:=Jr h
 unfold Zan
 rw [Vd d h,Bq]
 refine ZbC (l:=places d) (ZkH net) [] (fun k x hx hk=>?_) ?_
 ·have hl:=ZmU net ((places d).take k) 0
  rw [List.length_take] at hl
  simp only [List.nil_append,VZ,show (k:Int)<((places d).length:Int) from by omega,if_true,Zt,hx,Bq,ZkH,VI (show k≤1048576 by omega)]
  split
  ·split
   ·rw [List.append_nil]
   ·rw [Zj (by
     show (List.length _+1)*8≤_
     have:(cat (ZkH net) 0 ((places d).take k)).length≤78:=by omega
     omega)]
  ·rw [List.append_nil]
 ·simp only [List.nil_append,VZ,Int.lt_irrefl,if_false];rfl
theorem ZlD (d:Zf) (net:Int) (h:Few d):ZdV d net=some (sinks d net):=by
 have hp:=Jr h
 unfold ZdV
 rw [ZaC d h,Bq]
 refine ZbC (l:=places d) (ZkH net) [] (fun k x hx hk=>?_) ?_
 ·have hl:=ZmU net ((places d).take k) 0
  rw [List.length_take] at hl
  simp only [List.nil_append,Zbz,show (k:Int)<((places d).length:Int) from by omega,if_true,Zt,hx,Bq,ZkH,VI (show k≤1048576 by omega)]
  split
  ·split
   ·rw [List.append_nil]
   ·rw [Zj (by
     show (List.length _+1)*8≤_
     have:(cat (ZkH net) 0 ((places d).take k)).length≤78:=by omega
     omega)]
  ·rw [List.append_nil]
 ·simp only [List.nil_append,Zbz,Int.lt_irrefl,if_false];rfl
def loads (d:Zf):List Int:=((places d).filter (fun x=>!x.2.2.2.1)).map (fun x=>x.2.2.1)
theorem ZmV (net:Int):∀ (l:List Pl) (m:Nat),(cat (ZkH net) m l).length=((l.filter (fun x=>!x.2.2.2.1)).map (fun x=>x.2.2.1)).countP (fun y=>decide (y=net))
 | [],m=>by simp [cat]
 | x::r,m=>by
  simp only [cat,List.length_append,ZmV net r,ZkH]
  obtain ⟨a,b,n,dr,u⟩:=x
  cases dr
  ·by_cases e:n=net
   ·simp [e,Nat.add_comm]
   ·simp [e]
  ·simp
/-
  Plain laws: wires, blocks.
-/
theorem ZqN {w:Zy} (h:sm Vr w):sm (.sl (.int .i64)) (Zy.Parent w)∧sm (.sl (.int .i64)) (Zy.Res w)∧sm (.sl (.int .i64)) (Zy.Cap w)∧sm (.sl (.int .i64)) (Zy.ZjU w):=by
 refine ⟨?_,?_,?_,?_⟩
 all_goals first | exact h.1 | exact h.2.1 | exact h.2.2.1 | exact h.2.2.2.1
theorem Zp6 {b:Zn} (h:sm Y2 b):sm YD (Zn.Library b)∧sm YN (Zn.Design b)∧sm (.sl Vr) (Zn.XQ b):=by
 refine ⟨?_,?_,?_⟩
 all_goals first | exact h.1 | exact h.2.1 | exact h.2.2.1 | exact h.2.2.2.1
def ZlS (w:Zy) (k:Nat) (x:Int):Prop:=(k=0→x=-1∧(Zy.Res w)[0]?=some 0)∧(0<k→0≤x∧x≤(k:Int)-1)
def Zg8 (w:Zy) (s:Int):Prop :=
 (1≤(Zy.Parent w).length∧(Zy.Parent w).length≤8)∧(Zy.Res w).length=(Zy.Parent w).length∧(Zy.Cap w).length=(Zy.Parent w).length∧((Zy.ZjU w).length:Int)=s∧
 Zev (Zy.Parent w) (ZlS w)∧Zg5 (Zy.Res w) 0 1000∧Zg5 (Zy.Cap w) 0 500∧Zg5 (Zy.ZjU w) 0 (((Zy.Parent w).length:Int)-1)
theorem ZeB (l:List Int) (lo hi:Int) (hl:l.length≤1048576):Xh l lo hi=some (tr (Zg5 l lo hi)):=by
 rw [Zaq l lo hi (by omega)]
 exact ZaF (Zi0 _ _ _)
theorem Zis (w:Zy) (hw:sm Vr w) (h1:1≤(Zy.Parent w).length) (h2:(Zy.Res w).length=(Zy.Parent w).length):Za1 w=some (tr (Zev (Zy.Parent w) (ZlS w))):=by
 obtain ⟨a1,a2,a3,a4⟩:=ZqN hw
 have s1:=Zw a1
 unfold Za1
 have hr:(Zy.Res w)[0]?=some (Zy.Res w)[0]:=List.getElem?_eq_getElem (by omega)
 rw [Qc (Yv a1) (ZlS w) (bad:=false) (good:=true)
  (fun k x hx hk _=>by
   simp only [Jt,show (k:Int)<((Zy.Parent w).length:Int) from by omega,if_true,Zt,hx,Bq]
   unfold ZlS
   by_cases hk0:k=0
   ·subst hk0
    rw [if_pos (by rfl),show atI (Zy.Res w) 0=some (Zy.Res w)[0] from hr,hr]
    simp only [Bq,Option.some.injEq]
    rw [if_neg (show ¬(0:Int)<((0:Nat):Int) by omega)]
    constructor
    ·intro hh
     obtain ⟨q1,q2⟩:=hh.1 trivial
     rw [if_pos q1,if_pos q2]
    ·intro hh
     by_cases q1:x=-1
     ·rw [if_pos q1,if_neg (fun q2=>hh ⟨fun _=>⟨q1,q2⟩,fun h=>by omega⟩)]
     ·rw [if_neg q1]
   ·rw [if_neg (by omega),if_pos (by omega),XC,Bq,Vq (by omega) (by omega)]
    constructor
    ·intro hh;rw [if_pos (Yl (hh.2 (by omega)))]
    ·intro hh;rw [if_neg (fun q=>hh ⟨fun h=>absurd h hk0,fun _=>(Qx _).1 q⟩)])
  (fun _=>by simp only [Jt,Int.lt_irrefl,if_false]),Zk1]
theorem Znh (w:Zy) (s:Int) (hw:sm Vr w):Zga w s=some (tr (Zg8 w s)):=by
 obtain ⟨a1,a2,a3,a4⟩:=ZqN hw
 have s1:=Zw a1
 have s2:=Zw a2
 have s3:=Zw a3
 have s4:=Zw a4
 unfold Zga
 simp only [ZaH,Bq,Vq (show (-9223372036854775808:Int)≤((Zy.Parent w).length:Int)-1 by omega) (by omega)]
 refine Zcx (Yx (XC _ _ _) (fun q1=>Xf (fun q2=>Xf (fun q3=>Yx (Zis w hw (by omega) (by omega)) (fun q4=>Yx (ZeB _ _ _ s2) (fun q5=>Yx (ZeB _ _ _ s3) (fun q6=>Xf (fun q7=>Zcv (ZeB _ _ _ s4))))))))) ?_
 unfold Zg8
 constructor
 ·rintro ⟨q1,q2,q3,q4,q5,q6,q7,q8⟩
  exact ⟨⟨by omega,by omega⟩,by omega,by omega,q7,q4,q5,q6,q8⟩
 ·rintro ⟨q1,q2,q3,q7,q4,q5,q6,q8⟩
  exact ⟨by omega,by omega,by omega,q4,q5,q6,q7,q8⟩
theorem Zqc {l:List Int} {lo hi:Int}:Zg5 l lo hi↔∀ (k:Nat) (x:Int),l[k]?=some x→lo≤x∧x≤hi:=by
 unfold Zg5
 constructor
 ·intro h k x hx;exact h x (List.mem_of_getElem? hx)
 ·intro h x hx
  obtain ⟨k,hk⟩:=List.mem_iff_getElem?.1 hx
  exact h k x hk
theorem ZnC (w:Zy) (s:Int) (hw:sm Vr w):Zgv w s=some (tr (Zg8 w s)):=by
 obtain ⟨a1,a2,a3,a4⟩:=ZqN hw
 have s1:=Zw a1
 have s2:=Zw a2
 have s3:=Zw a3
 have s4:=Zw a4
 have e1:Wq (((Zy.Parent w).length:Int)-1)=((Zy.Parent w).length:Int)-1:=Vq (by omega) (by omega)
 unfold Zgv
 refine Zcx (Zd6 (fun q1=>Zd6 (fun q2=>Xf (fun q3=>Xf (fun q4=>Xf (fun q5=>?_)))))) ?_
  (P:=¬((Zy.Parent w).length:Int)<1∧¬(8:Int)<((Zy.Parent w).length:Int)∧((Zy.Res w).length:Int)=((Zy.Parent w).length:Int)∧((Zy.Cap w).length:Int)=((Zy.Parent w).length:Int)∧((Zy.ZjU w).length:Int)=s∧
   (Zev (Zy.Parent w) (fun k x=>(∀ c,(Zy.Cap w)[k]?=some c→0≤c∧c≤500)∧(∀ r,(Zy.Res w)[k]?=some r→0≤r∧r≤1000)∧ZlS w k x)∧Zg5 (Zy.ZjU w) 0 (((Zy.Parent w).length:Int)-1)))
 ·rw [Qc (Yv a1) (fun k x=>(∀ c,(Zy.Cap w)[k]?=some c→0≤c∧c≤500)∧(∀ r,(Zy.Res w)[k]?=some r→0≤r∧r≤1000)∧ZlS w k x) (bad:=false) (good:=tr (Zg5 (Zy.ZjU w) 0 (((Zy.Parent w).length:Int)-1)))
   (fun k x hx hk _=>by
    have hc:(Zy.Cap w)[k]?=some (Zy.Cap w)[k]:=List.getElem?_eq_getElem (by omega)
    have hr:(Zy.Res w)[k]?=some (Zy.Res w)[k]:=List.getElem?_eq_getElem (by omega)
    simp only [ZcM,show (k:Int)<((Zy.Parent w).length:Int) from by omega,if_true,Zt,hc,hr,hx,Bq,QO,Option.some.injEq,forall_eq']
    generalize (Zy.Cap w)[k]=c at hc
    generalize (Zy.Res w)[k]=r at hr
    by_cases qc:0≤c∧c≤500
    ·rw [if_pos (Yl qc)]
     by_cases qr:0≤r∧r≤1000
     ·rw [if_pos (Yl qr)]
      unfold ZlS
      by_cases hk0:k=0
      ·subst hk0
       rw [if_pos (by rfl),hr]
       simp only [Option.some.injEq]
       rw [if_neg (show ¬(0:Int)<((0:Nat):Int) by omega)]
       constructor
       ·rintro ⟨_,_,hh⟩
        obtain ⟨q1,q2⟩:=hh.1 trivial
        rw [if_pos q1,if_pos q2]
       ·intro hh
        by_cases q1:x=-1
        ·rw [if_pos q1,if_neg (fun q2=>hh ⟨qc,qr,fun _=>⟨q1,q2⟩,fun h=>by omega⟩)]
        ·rw [if_neg q1]
      ·rw [if_neg (by omega),if_pos (by omega),Vq (show (-9223372036854775808:Int)≤(k:Int)-1 by omega) (by omega)]
       constructor
       ·intro hh;rw [if_pos (Yl (hh.2.2.2 (by omega)))]
       ·intro hh;rw [if_neg (fun q=>hh ⟨qc,qr,fun h=>absurd h hk0,fun _=>(Qx _).1 q⟩)]
     ·rw [if_neg (fun q=>qr ((Qx _).1 q))]
      exact ⟨fun hh=>absurd hh.2.1 qr,fun _=>rfl⟩
    ·rw [if_neg (fun q=>qc ((Qx _).1 q))]
     exact ⟨fun hh=>absurd hh.1 qc,fun _=>rfl⟩)
   (fun _=>by
    simp only [ZcM,Int.lt_irrefl,if_false]
    rw [Qc (Yv a4) (fun _ x=>0≤x∧x≤((Zy.Parent w).length:Int)-1) (bad:=.inr false) (good:=.inr true)
     (fun k x hx hk _=>by
      simp only [ZcL,show (k:Int)<((Zy.ZjU w).length:Int) from by omega,if_true,Zt,hx,Bq,QO,e1]
      constructor
      ·intro hh;rw [if_pos (Yl hh)]
      ·intro hh;rw [if_neg (fun q=>hh ((Qx _).1 q))])
     (fun _=>by simp only [ZcL,Int.lt_irrefl,if_false])]
    congr 1
    have e:Zev (Zy.ZjU w) (fun _ x=>0≤x∧x≤((Zy.Parent w).length:Int)-1)↔Zg5 (Zy.ZjU w) 0 (((Zy.Parent w).length:Int)-1):=Q6
    by_cases hh:Zg5 (Zy.ZjU w) 0 (((Zy.Parent w).length:Int)-1)
    ·rw [Y3 (e.2 hh),Yl hh]
    ·rw [YH (fun q=>hh (e.1 q)),ZK hh]),Zce]
 ·unfold Zg8
  rw [Zqc (l:=Zy.Res w),Zqc (l:=Zy.Cap w)]
  constructor
  ·rintro ⟨q1,q2,q3,q4,q5,q6,q7⟩
   refine ⟨⟨by omega,by omega⟩,by omega,by omega,q5,fun k x hx=>(q6 k x hx).2.2,fun k r hr=>?_,fun k c hc=>?_,q7⟩
   ·have hk:=(List.getElem?_eq_some_iff.1 hr).1
    exact (q6 k _ (List.getElem?_eq_getElem (by omega))).2.1 r hr
   ·have hk:=(List.getElem?_eq_some_iff.1 hc).1
    exact (q6 k _ (List.getElem?_eq_getElem (by omega))).1 c hc
  ·rintro ⟨q1,q2,q3,q5,q6,q7,q8,q9⟩
   exact ⟨by omega,by omega,by omega,by omega,q5,fun k x hx=>⟨fun c hc=>q8 k c hc,fun r hr=>q7 k r hr,q6 k x hx⟩,q9⟩
def ZjT (b:Zn):Prop :=
 ZcP (Zn.Library b) (Zn.Design b)∧(Zn.XQ b).length=(Zf.XJ (Zn.Design b)).length∧Zev (Zn.XQ b) (fun k w=>Zg8 w ((sinks (Zn.Design b) (k:Int)).length:Int))
theorem Zph {a:Zu} {d:Zf} (h:ZcP a d) {x:Pl} (hx:x∈places d):ZoR d x.2.2.1:=by
 unfold places at hx
 rcases List.mem_append.1 hx with hx | hx
 ·obtain ⟨i,z,hi,hz⟩:=Zhq.1 hx
  unfold Zjg at hz
  obtain ⟨j,n,hj,hn⟩:=Zhq.1 hz
  simp only [List.mem_singleton] at hn
  subst hn
  exact (h.2.2.1 z (List.mem_of_getElem? hi)).2.2 n (List.mem_of_getElem? hj)
 ·obtain ⟨j,p,hj,hp⟩:=Zhq.1 hx
  simp only [ZkV,List.mem_singleton] at hp
  subst hp
  exact (h.2.2.2.1 p (List.mem_of_getElem? hj)).2
theorem Zhw (b:Zn) (hb:sm Y2 b):Zdm b=some (tr (ZjT b)):=by
 obtain ⟨a1,a2,a3⟩:=Zp6 hb
 have s3:=Zw a3
 unfold Zdm
 refine Zcx (Yx (ZlA _ _ a1 a2) (fun hD=>Xf (fun q1=>?_))) ?_
  (P:=ZcP (Zn.Library b) (Zn.Design b)∧((Zn.XQ b).length:Int)=((Zf.XJ (Zn.Design b)).length:Int)∧Zev (Zn.XQ b) (fun k w=>Zg8 w ((sinks (Zn.Design b) (k:Int)).length:Int)))
 ·rw [Qc (Yv a3) (fun k w=>Zg8 w ((sinks (Zn.Design b) (k:Int)).length:Int)) (bad:=false) (good:=true)
   (fun k w hx hk _=>by
    simp only [Zcg,show (k:Int)<((Zn.XQ b).length:Int) from by omega,if_true,Zt,hx,Bq,ZlD _ _ hD.few,ZnC w _ (Zfx a3 hx)]
    constructor
    ·intro hh;rw [if_pos (Yl hh)]
    ·intro hh;rw [if_neg (fun q=>hh ((Qx _).1 q))])
   (fun _=>by simp only [Zcg,Int.lt_irrefl,if_false]),Zk1]
 ·unfold ZjT
  rw [show ((Zn.XQ b).length:Int)=((Zf.XJ (Zn.Design b)).length:Int)↔(Zn.XQ b).length=(Zf.XJ (Zn.Design b)).length from by omega]
theorem Zq4 {l:List Pl} {k:Nat} {x:Pl} (hx:l[k]?=some x) :
  (((l.take (k+1)).filter (fun x=>!x.2.2.2.1)).map (fun x=>x.2.2.1))=if x.2.2.2.1=true then (((l.take k).filter (fun x=>!x.2.2.2.1)).map (fun x=>x.2.2.1)) else (((l.take k).filter (fun x=>!x.2.2.2.1)).map (fun x=>x.2.2.1))++[x.2.2.1]:=by
 rw [YP hx,List.filter_append,List.map_append]
 by_cases h:x.2.2.2.1=true
 ·rw [if_pos h];simp [h]
 ·rw [if_neg h];simp [h]
theorem Zl6 (b:Zn) (hb:sm Y2 b):ZeF b=some (tr (ZjT b)):=by
 obtain ⟨a1,a2,a3⟩:=Zp6 hb
 have s3:=Zw a3
 unfold ZeF
 refine Zcx (Yx (Zla _ _ a1 a2) (fun hD=>Xf (fun q1=>?_))) ?_
  (P:=ZcP (Zn.Library b) (Zn.Design b)∧((Zn.XQ b).length:Int)=((Zf.XJ (Zn.Design b)).length:Int)∧Zev (Zn.XQ b) (fun k w=>Zg8 w ((sinks (Zn.Design b) (k:Int)).length:Int)))
 ·rw [Zj (by omega),Zj (by omega),Zj (by omega),Zj (by omega),Vd _ hD.few,Bq]
  have hpl:=Jr hD.few
  have:=J6 (l:=places (Zn.Design b)) (ρ:=Bool) (fun k=>((k:Int),Zk6 (Zn.XQ b).length ((((places (Zn.Design b)).take k).filter (fun x=>!x.2.2.2.1)).map (fun x=>x.2.2.1)),())) (step:=fun v=>JB b (places (Zn.Design b)) v.1 v.2.1) (good:=tr (Zev (Zn.XQ b) (fun k w=>Zg8 w ((sinks (Zn.Design b) (k:Int)).length:Int))))
   (fun k x hx hk=>by
    have hn:=Zph hD (List.mem_of_getElem? hx)
    have hl1:=List.length_filter_le (fun x:Pl=>!x.2.2.2.1) ((places (Zn.Design b)).take k)
    rw [List.length_take] at hl1
    simp only [JB,show (k:Int)<((places (Zn.Design b)).length:Int) from by omega,if_true,Zt,hx,Bq,Zq4 hx]
    by_cases hd:x.2.2.2.1=true
    ·rw [if_pos hd,if_pos hd,VI (by omega)]
    ·rw [if_neg hd,if_neg hd,Zhd hn.1 (by have:=hn.2;show x.2.2.1<_;omega) (by rw [List.length_map];omega) (F:=fun o=>some (Sum.inl (Wq ((k:Int)+1),o,()))),VI (by omega)])
   (by
    simp only [JB,Int.lt_irrefl,if_false,List.take_length]
    rw [Qc (Yv a3) (fun k w=>Zg8 w ((sinks (Zn.Design b) (k:Int)).length:Int)) (bad:=.inr false) (good:=.inr true)
     (fun k w hx hk _=>by
      have hc:(sinks (Zn.Design b) (k:Int)).length=_:=ZmV (k:Int) (places (Zn.Design b)) 0
      simp only [ZbX,show (k:Int)<((Zn.XQ b).length:Int) from by omega,if_true,Zt,hx,Bq]
      rw [ZlI hk,Bq,Znh w _ (Zfx a3 hx),Bq,hc]
      constructor
      ·intro hh;rw [if_pos (Yl hh)]
      ·intro hh;rw [if_neg (fun q=>hh ((Qx _).1 q))])
     (fun _=>by simp only [ZbX,Int.lt_irrefl,if_false])]
    congr 1
    by_cases hh:Zev (Zn.XQ b) (fun k w=>Zg8 w ((sinks (Zn.Design b) (k:Int)).length:Int))
    ·rw [Y3 hh,Yl hh]
    ·rw [YH hh,ZK hh])
  rw [List.take_zero,List.filter_nil,List.map_nil,Zok] at this
  exact this
 ·unfold ZjT
  rw [show ((Zn.XQ b).length:Int)=((Zf.XJ (Zn.Design b)).length:Int)↔(Zn.XQ b).length=(Zf.XJ (Zn.Design b)).length from by omega]
structure Zrs (b:Zn):Prop where
 ok:ZjT b
 sm:sm Y2 b
/-
  Plain laws: what a place asks of its net; loads are always told.
-/
theorem Zhp {α τ ρ:Type} {l:List α} (I:Nat→τ→Prop) (Q:ρ→Prop) {step:τ→Option (τ ⊕ ρ)} {v:τ} (h0:I 0 v)
  (hs:∀ (k:Nat) (x:α) (v:τ),l[k]?=some x→k<l.length→I k v→∃ v',step v=some (.inl v')∧I (k+1) v')
  (hx:∀ v,I l.length v→∃ r,step v=some (.inr r)∧Q r):∃ r,Zr step v=some r∧Q r :=
 Qy l.length I Q h0 (fun k v hk hI=>.inl (hs k l[k] v (List.getElem?_eq_getElem hk) hk hI)) hx
theorem Zoh {α:Type} {l:List α} {i:Int} (h0:0≤i) (h1:i<(l.length:Int)):∃ x,atI l i=some x∧x∈l:=by
 obtain ⟨x,h2,h3⟩:=ZlV h0 h1
 exact ⟨x,h2,List.mem_of_getElem? h3⟩
theorem Zsr {a:Zu} {d:Zf} (h:ZcP a d) {x:Pl} (hx:x∈places d):∃ n,Zam d a x=some n:=by
 unfold Zam
 split
 ·exact ⟨_,rfl⟩
 ·rename_i hneg
  unfold places at hx
  rcases List.mem_append.1 hx with hx | hx
  ·obtain ⟨i,z,hi,hz⟩:=Zhq.1 hx
   unfold Zjg at hz
   obtain ⟨j,n,hj,hn⟩:=Zhq.1 hz
   simp only [List.mem_singleton] at hn
   subst hn
   rw [Nat.zero_add] at hneg
   obtain ⟨hc,⟨c,hc1,hc2⟩,_⟩:=h.2.2.1 z (List.mem_of_getElem? hi)
   have hj2:=(List.getElem?_eq_some_iff.1 hj).1
   simp only [Y1.instance,Y1.pin,Nat.zero_add,Zt,hi,Bq]
   rw [ZeC hc.1 hc1,Bq]
   have hp:(Zi.YB c)[j]?=some (Zi.YB c)[j]:=List.getElem?_eq_getElem (by omega)
   rw [hp,Bq]
   exact ⟨_,rfl⟩
  ·obtain ⟨j,p,hj,hp⟩:=Zhq.1 hx
   simp only [ZkV,List.mem_singleton] at hp
   subst hp
   exact absurd (by show (-1:Int)<0;omega) hneg
theorem Zsi {d:Zf} {net y:Int} (h:y∈sinks d net):0≤y∧y<((places d).length:Int):=by
 obtain ⟨k,x,hk,hy⟩:=Zhq.1 h
 have:=(List.getElem?_eq_some_iff.1 hk).1
 unfold ZkH at hy
 split at hy
 ·split at hy
  ·cases hy
  ·simp only [List.mem_singleton] at hy;omega
 ·cases hy
theorem ZjE {b:Zn} (h:Zrs b) {k:Nat} {w:Zy} (hw:(Zn.XQ b)[k]?=some w):∃ r,Qg b (k:Int)=some r∧r.length=(Zy.Parent w).length:=by
 have hW:=h.ok.2.2 k w hw
 have hD:=h.ok.1
 have hf:=hD.few
 obtain ⟨⟨l1,l8⟩,lr,lc,ls,ht,ar,ac,asn⟩:=hW
 have hpl:=Jr hf
 have hsl:=ZmU (k:Int) (places (Zn.Design b)) 0
 have hsl2:(sinks (Zn.Design b) (k:Int)).length≤78:=by unfold sinks;omega
 unfold Qg
 rw [Zt,hw,Bq]
 unfold Vo
 rw [Zj (by simp;omega),Bq,Vd _ hf,Bq,ZhN _ _ hf,Bq]
 refine Zhp (l:=sinks (Zn.Design b) (k:Int)) (fun m v=>v.1=(m:Int)∧v.2.1.length=(Zy.Parent w).length) _ ⟨rfl,by simp;omega⟩ ?_ ?_
 ·rintro m y ⟨i,l,⟨⟩⟩ hy hm ⟨hi,hl⟩
  simp only at hi hl
  subst hi
  have hz:(Zy.ZjU w)[m]?=some (Zy.ZjU w)[m]:=List.getElem?_eq_getElem (by omega)
  generalize (Zy.ZjU w)[m]=z at hz
  have hz2:=asn z (List.mem_of_getElem? hz)
  obtain ⟨q,hq1,_⟩:=Zoh (l:=l) hz2.1 (by omega)
  obtain ⟨hy1,hy2⟩:=Zsi (List.mem_of_getElem? hy)
  obtain ⟨p,hp1,hp2⟩:=Zoh hy1 hy2
  obtain ⟨c,hc⟩:=Zsr hD hp2
  simp only [QY,show (m:Int)<((sinks (Zn.Design b) (k:Int)).length:Int) from by omega,if_true,Zt,hy,hz,Bq,hq1,hp1,hc]
  exact ⟨_,rfl,by rw [VI (by omega)],by simp [hl]⟩
 ·rintro ⟨i,l,⟨⟩⟩ ⟨hi,hl⟩
  simp only at hi hl
  subst hi
  simp only [QY,Int.lt_irrefl,if_false]
  have:=Zn6 (σ:=Int×List Int×Unit) (ρ:=(Int×List Int×Unit) ⊕ List Int) (step:=fun v=>QX w v.1 v.2.1) (fun v=>(∃ j:Nat,v.1=(j:Int)∧j<(Zy.Parent w).length)∧v.2.1.length=(Zy.Parent w).length) (fun v=>v.1.toNat) (fun r=>∃ r',r=.inr r'∧r'.length=(Zy.Parent w).length) (v:=(Wq ((l.length:Int)-1),l,()))
   ⟨⟨l.length-1,by show Wq _=_;rw [ZkM (by omega) (by omega)],by omega⟩,hl⟩
   (by
    rintro ⟨i,l,⟨⟩⟩ ⟨⟨j,hj,hj2⟩,hl⟩
    simp only at hj hl
    subst hj
    simp only [QX]
    by_cases h0:(0:Int)<(j:Int)
    ·rw [if_pos h0]
     have hp:(Zy.Parent w)[j]?=some (Zy.Parent w)[j]:=List.getElem?_eq_getElem (by omega)
     generalize (Zy.Parent w)[j]=p at hp
     have hp2:=(ht j p hp).2 (by omega)
     obtain ⟨q,hq1,_⟩:=Zoh (l:=l) hp2.1 (by omega)
     have hl2:l[j]?=some l[j]:=List.getElem?_eq_getElem (by omega)
     simp only [Zt,hp,Bq,hq1,hl2]
     left
     refine ⟨_,rfl,⟨⟨j-1,by rw [ZkM (by omega) (by omega)],by omega⟩,by simp [hl]⟩,?_⟩
     show (Wq ((j:Int)-1)).toNat<((j:Int)).toNat
     rw [ZkM (by omega) (by omega)];omega
    ·rw [if_neg h0]
     right
     exact ⟨_,rfl,_,rfl,hl⟩)
  obtain ⟨r,h1,r',rfl,h3⟩:=this
  exact ⟨r',h1,h3⟩
/-
  Plain laws: the view is always made.
-/
theorem ZlZ {b:Zn} (h:Zrs b) {k:Nat} {w:Zy} (hw:(Zn.XQ b)[k]?=some w):∃ r,QM b (k:Int)=some r∧r.length≤1048576:=by
 have hW:=h.ok.2.2 k w hw
 obtain ⟨⟨l1,l8⟩,lr,lc,ls,ht,ar,ac,asn⟩:=hW
 obtain ⟨nl,hnl,hnl2⟩:=ZjE h hw
 have hsm:=Zw (ZqN (Zfx (Zp6 h.sm).2.2 hw)).2.2.2
 have hnd:∃ r,Vb b (k:Int)=some r∧r.length=(Zy.Parent w).length:=by
  unfold Vb
  rw [Zt,hw,Bq,hnl,Bq,Zj (by omega),Zj (by omega),Zj (by omega),Zj (by omega)]
  refine Qy ((Zy.Parent w).length-1) (fun m v=>v.1=((m+1:Nat):Int)∧v.2.1.length=(Zy.Parent w).length) _ ⟨rfl,by simp [hnl2]⟩ ?_ ?_
  ·rintro m ⟨i,l,⟨⟩⟩ hm ⟨hi,hl⟩
   simp only at hi hl
   subst hi
   left
   have hp:(Zy.Parent w)[m+1]?=some (Zy.Parent w)[m+1]:=List.getElem?_eq_getElem (by omega)
   generalize (Zy.Parent w)[m+1]=p at hp
   have hp2:=(ht (m+1) p hp).2 (by omega)
   obtain ⟨q,hq1,_⟩:=Zoh (l:=l) hp2.1 (by omega)
   have hr:(Zy.Res w)[m+1]?=some (Zy.Res w)[m+1]:=List.getElem?_eq_getElem (by omega)
   have hn:nl[m+1]?=some nl[m+1]:=List.getElem?_eq_getElem (by omega)
   have hl2:l[m+1]?=some l[m+1]:=List.getElem?_eq_getElem (by omega)
   simp only [QF,show ((m+1:Nat):Int)<(l.length:Int) from by omega,if_true,Zt,hp,hq1,hr,hn,hl2,Bq]
   exact ⟨_,rfl,by rw [VI (by omega)],by simp [hl]⟩
  ·rintro ⟨i,l,⟨⟩⟩ ⟨hi,hl⟩
   simp only at hi hl
   subst hi
   simp only [QF,show ¬(((Zy.Parent w).length-1+1:Nat):Int)<(l.length:Int) from by omega,if_false]
   exact ⟨_,rfl,hl⟩
 obtain ⟨nd,hnd,hnd2⟩:=hnd
 unfold QM
 rw [hnd,Bq,Zt,hw,Bq]
 refine Zhp (l:=Zy.ZjU w) (fun m v=>v.1.length=m∧v.2.1=(m:Int)) _ ⟨rfl,rfl⟩ ?_ ?_
 ·rintro m y ⟨o,i,⟨⟩⟩ hy hm ⟨ho,hi⟩
  simp only at hi ho
  subst hi
  have hz2:=asn y (List.mem_of_getElem? hy)
  obtain ⟨q,hq1,_⟩:=Zoh (l:=nd) hz2.1 (by omega)
  simp only [Qq,show (m:Int)<((Zy.ZjU w).length:Int) from by omega,if_true,Zt,hy,hq1,Bq]
  rw [Zj (by simp;omega)]
  exact ⟨_,rfl,by simp [ho],by rw [VI (by omega)]⟩
 ·rintro ⟨o,i,⟨⟩⟩ ⟨ho,hi⟩
  simp only at hi ho
  subst hi
  simp only [Qq,Int.lt_irrefl,if_false]
  exact ⟨_,rfl,by omega⟩
theorem Zm7 (a:ZB):∃ r,Vs a=some r∧r.length≤4:=by
 unfold Vs
 repeat' split
 all_goals exact ⟨_,rfl,by simp⟩
theorem Zoi {b:Zn} (h:Zrs b) {x:Zk} (hx:x∈Zf.Instances (Zn.Design b)) (f:Int):∃ r,Vt b x f=some r∧r.length≤32:=by
 obtain ⟨hc,⟨c,hc1,hc2⟩,_⟩:=h.ok.1.2.2.1 x hx
 have hA:=(h.ok.1.1.2.1 c (List.mem_of_getElem? hc1)).2.2.1.1
 unfold Vt
 rw [ZeC hc.1 hc1,Bq]
 refine Zhp (l:=Zi.Zaf c) (fun m v=>v.1.length≤4*m∧v.2.1=(m:Int)) _ ⟨by simp,rfl⟩ ?_ ?_
 ·rintro m y ⟨o,i,⟨⟩⟩ hy hm ⟨ho,hi⟩
  simp only at hi ho
  subst hi
  obtain ⟨ts,ht1,ht2⟩:=Zm7 y
  simp only [QW,show (m:Int)<((Zi.Zaf c).length:Int) from by omega,if_true,Zt,hy,ht1,Bq]
  obtain ⟨r,hr1,r',rfl,hr2⟩:=Zhp (l:=ts) (ρ:=(List Vx×Int×Unit) ⊕ List Vx) (step:=fun v=>XK f (m:Int) y ts v.1 v.2.1) (v:=(o,(0:Int),())) (fun n v=>v.1.length=o.length+n∧v.2.1=(n:Int)) (fun r=>∃ r',r=.inl r'∧r'.1.length≤4*(m+1)∧r'.2.1=((m+1:Nat):Int)) ⟨rfl,rfl⟩
   (by
    rintro n z ⟨o2,i,⟨⟩⟩ hz hn ⟨ho2,hi⟩
    simp only at hi ho2
    subst hi
    simp only [XK,show (n:Int)<(ts.length:Int) from by omega,if_true,Zt,hz,Bq]
    rw [Zj (by simp;omega)]
    exact ⟨_,rfl,by simp [ho2];omega,by rw [VI (by omega)]⟩)
   (by
    rintro ⟨o2,i,⟨⟩⟩ ⟨ho2,hi⟩
    simp only at hi ho2
    subst hi
    simp only [XK,Int.lt_irrefl,if_false]
    exact ⟨_,rfl,_,rfl,by simp only;omega,by rw [VI (by omega)]⟩)
  exact ⟨r',hr1,hr2⟩
 ·rintro ⟨o,i,⟨⟩⟩ ⟨ho,hi⟩
  simp only at hi ho
  subst hi
  simp only [QW,Int.lt_irrefl,if_false]
  exact ⟨_,rfl,by omega⟩
def Short (l:List (List Int)) (n m:Nat):Prop:=l.length=n∧∀ x∈l,x.length≤m
theorem Short.set {l:List (List Int)} {n m:Nat} (h:Short l n m) {x:List Int} (hx:x.length≤m) (i:Nat):Short (l.set i x) n m:=by
 refine ⟨by simp [h.1],fun y hy=>?_⟩
 rcases List.mem_or_eq_of_mem_set hy with hy | rfl
 ·exact h.2 y hy
 ·exact hx
theorem Short.mono {l:List (List Int)} {n m p:Nat} (h:Short l n m) (hp:m≤p):Short l n p:=⟨h.1,fun x hx=>Nat.le_trans (h.2 x hx) hp⟩
theorem ZpY {b:Zn} (h:Zrs b):∃ v,ZeM b=some v∧YT.places v=places (Zn.Design b)∧YT.Block v=b:=by
 have hD:=h.ok.1
 have hf:=hD.few
 have hpl:=Jr hf
 have h14:=hf.insts
 have hwn:=h.ok.2.1
 have h30:=hD.2.1.2.1
 unfold ZeM
 rw [Vd _ hf,Bq]
 refine Zhp (l:=Zf.Instances (Zn.Design b)) (fun k v=>v.2.1=(k:Int)∧v.2.2.1.length≤32*k) _ ⟨rfl,by simp⟩ ?_ ?_
 ·rintro k x ⟨n,i,c,⟨⟩⟩ hx hk ⟨hi,hc⟩
  simp only at hi hc
  subst hi
  obtain ⟨r,hr1,hr2⟩:=Zoi h (List.mem_of_getElem? hx) n
  simp only [Zb0,show (k:Int)<((Zf.Instances (Zn.Design b)).length:Int) from by omega,if_true,Zt,hx,hr1,Bq,ZaH]
  rw [Zj (by omega)]
  exact ⟨_,rfl,by simp only;rw [VI (by omega)],by simp only [List.length_append];omega⟩
 ·rintro ⟨n,i,c0,⟨⟩⟩ ⟨hi,hc0⟩
  simp only at hi hc0
  subst hi
  simp only [Zb0,Int.lt_irrefl,if_false]
  rw [Zj (by omega),Zj (by omega),Zj (by omega),Zj (by omega),Zj (by omega)]
  obtain ⟨r,hr1,r',rfl,hr2⟩:=Zhp (l:=places (Zn.Design b)) (ρ:=(Int×Int×List Vx×Unit) ⊕ YT) (step:=fun v=>JF b (places (Zn.Design b)) c0 v.1 v.2.1 v.2.2.1) (v:=((0:Int),List.replicate (Int.toNat (↑(List.length (Zn.XQ b)):Int)) (0:Int),List.replicate (Int.toNat (↑(List.length (Zn.XQ b)):Int)) (([]:List Int)),()))
   (fun k v=>v.1=(k:Int)∧v.2.1.length=(Zn.XQ b).length∧Short v.2.2.1 (Zn.XQ b).length k)
   (fun r=>∃ r',r=.inr r'∧YT.places r'=places (Zn.Design b)∧YT.Block r'=b)
   ⟨rfl,by simp,by simp,by
    intro x hx
    rw [List.mem_replicate] at hx
    rw [hx.2];simp⟩
   (by
    rintro k x ⟨i,l0,l1,⟨⟩⟩ hx hk ⟨hi,h0,h1⟩
    simp only at hi h0 h1
    subst hi
    have hn:=Zph hD (List.mem_of_getElem? hx)
    have hn1:=hn.2
    simp only [JF,show (k:Int)<((places (Zn.Design b)).length:Int) from by omega,if_true,Zt,hx,Bq]
    obtain ⟨q,hq1,_⟩:=Zoh (l:=l0) hn.1 (by omega)
    obtain ⟨p,hp1,hp2⟩:=Zoh (l:=l1) hn.1 (by have:=h1.1;omega)
    have hp3:=h1.2 p hp2
    split
    ·rw [show atI l0 (Y1.net x)=some q from hq1,Bq]
     exact ⟨_,rfl,by simp only;rw [VI (by omega)],by simp [h0],h1.mono (by omega)⟩
    ·rw [show atI l1 (Y1.net x)=some p from hp1,Bq,Zj (by simp;omega)]
     exact ⟨_,rfl,by simp only;rw [VI (by omega)],h0,(h1.mono (by omega)).set (by simp;omega) _⟩)
   (by
    rintro ⟨i,l0,l1,⟨⟩⟩ ⟨hi,h0,h1⟩
    simp only at hi h0 h1
    subst hi
    simp only [JF,Int.lt_irrefl,if_false]
    obtain ⟨r,hr1,r',rfl,hr2⟩:=Zhp (l:=Zn.XQ b) (ρ:=(Int×List Int×List (List Int)×Unit) ⊕ ((Int×Int×List Vx×Unit) ⊕ YT)) (step:=fun v=>JE b (places (Zn.Design b)) l0 v.1 v.2.1 v.2.2.1 v.2.2.2.1 v.2.2.2.2.1) (v:=((0:Int),([]:List Int),([]:List (List Int)),c0,l1,()))
     (fun k v=>v.1=(k:Int)∧v.2.1.length=k∧v.2.2.1.length=k∧v.2.2.2.1.length≤448+156*k∧Short v.2.2.2.2.1 (Zn.XQ b).length 78)
     (fun r=>∃ r',r=.inr (.inr r')∧YT.places r'=places (Zn.Design b)∧YT.Block r'=b)
     ⟨rfl,rfl,rfl,by simp only;omega,h1.mono (by omega)⟩
     (by
      rintro k w ⟨i,c1,c2,c3,l2,⟨⟩⟩ hw hk ⟨hi,g1,g2,g3,g4⟩
      simp only at hi g1 g2 g3 g4
      subst hi
      obtain ⟨nl,hnl,hnl2⟩:=ZjE h hw
      obtain ⟨ed,hed,hed2⟩:=ZlZ h hw
      have hpar:=(h.ok.2.2 k w hw).1.1
      have hn0:atI nl (0:Int)=some nl[0]:=(show nl[0]?=some nl[0] from List.getElem?_eq_getElem (by omega))
      obtain ⟨x1,hl2⟩:∃ x1,l2[k]?=some x1:=⟨_,List.getElem?_eq_getElem (by have:=g4.1;omega)⟩
      have hx1:=g4.2 x1 (List.mem_of_getElem? hl2)
      simp only [JE,show (k:Int)<((Zn.XQ b).length:Int) from by omega,if_true,hnl,hn0,hed,Bq,Zt,hl2]
      rw [Zj (by simp;omega),Zj (by simp;omega)]
      obtain ⟨r,hr1,r',rfl,hr2⟩:=Zhp (l:=x1) (ρ:=(Int×List Int×List (List Int)×List Vx×List (List Int)×Unit) ⊕ ((Int×List Int×List (List Int)×Unit) ⊕ ((Int×Int×List Vx×Unit) ⊕ YT))) (step:=fun v=>JD l0 (k:Int) c1 c2 l2 nl[0] ed x1 v.1 v.2.1) (v:=((0:Int),c3,()))
       (fun m v=>v.1=(m:Int)∧v.2.1.length=c3.length+2*m)
       (fun r=>∃ r',r=.inl r'∧r'.1=((k+1:Nat):Int)∧r'.2.1.length=k+1∧r'.2.2.1.length=k+1∧r'.2.2.2.1.length≤448+156*(k+1)∧Short r'.2.2.2.2.1 (Zn.XQ b).length 78)
       ⟨rfl,rfl⟩
       (by
        rintro m y ⟨i,c4,⟨⟩⟩ hy hm ⟨hi,gc⟩
        simp only at hi gc
        subst hi
        simp only [JD,show (m:Int)<(x1.length:Int) from by omega,if_true,Zt,hy,Bq]
        have hl0:l0[k]?=some l0[k]:=List.getElem?_eq_getElem (by omega)
        generalize l0[k]=z at hl0
        obtain ⟨r,hr1,r',rfl,hr2⟩:=Qy (step:=fun v=>JC l0 (k:Int) (m:Int) y v.1 v.2.1) 2 (fun j v=>v.1=(j:Int)∧v.2.1.length=c4.length+j) (fun r=>∃ r',r=.inl r'∧r'.1=((m+1:Nat):Int)∧r'.2.1.length=c4.length+2) (v:=((0:Int),c4,())) ⟨rfl,rfl⟩
         (by
          rintro j ⟨i,c5,⟨⟩⟩ hj ⟨hi,hc5⟩
          simp only at hi hc5
          subst hi
          left
          simp only [JC,show (j:Int)<(2:Int) from by omega,if_true,Zt,hl0,Bq]
          rw [Zj (by simp;omega)]
          exact ⟨_,rfl,by simp only;rw [VI (by omega)],by simp [hc5];omega⟩)
         (by
          rintro ⟨i,c5,⟨⟩⟩ ⟨hi,hc5⟩
          simp only at hi hc5
          subst hi
          simp only [JC,show ¬((2:Nat):Int)<(2:Int) from by omega,if_false]
          exact ⟨_,rfl,_,rfl,by simp only;rw [VI (by omega)],hc5⟩)
        exact ⟨r',hr1,hr2.1,by rw [hr2.2];omega⟩)
       (by
        rintro ⟨i,c4,⟨⟩⟩ ⟨hi,gc⟩
        simp only at hi gc
        subst hi
        simp only [JD,Int.lt_irrefl,if_false]
        exact ⟨_,rfl,_,rfl,by simp only;rw [VI (by omega)],by simp [g1],by simp [g2],by simp only;omega,g4.set hx1 _⟩)
      exact ⟨r',hr1,hr2⟩)
     (by
      rintro ⟨i,c1,c2,c3,l2,⟨⟩⟩ ⟨hi,g1,g2,g3,g4⟩
      simp only at hi
      subst hi
      simp only [JE,Int.lt_irrefl,if_false]
      exact ⟨_,rfl,_,rfl,rfl,rfl⟩)
    exact ⟨_,hr1,_,rfl,hr2⟩)
  exact ⟨r',hr1,hr2⟩
/-
  Plain laws: spans, slews.
-/
def Zfj (s:ZH):Prop:=0≤ZH.Early s∧ZH.Early s≤ZH.Late s∧ZH.Late s≤1000000
theorem Za9 (s:ZH):Zcm s=some (tr (Zfj s)):=by
 unfold Zcm Zfj
 exact Xf (fun _=>Xf (fun _=>ZaF decide_eq_true_iff))
def ZlT (s:ZH):Prop:=(-1000000000≤ZH.Early s∧ZH.Early s≤1000000000)∧(-1000000000≤ZH.Late s∧ZH.Late s≤1000000000)∧ZH.Early s≤ZH.Late s
theorem ZaU (s:ZH):Zcy s=some (tr (ZlT s)):=by
 unfold Zcy ZlT Zgc
 exact Yx (Zcv (XC _ _ _)) (fun _=>Yx (Zcv (XC _ _ _)) (fun _=>ZaF decide_eq_true_iff))
theorem ZgG (s:ZH):ZbY s=some (tr (Zfj s)):=by
 unfold ZbY Zgb
 refine Zcx (Yx (ZaU s) (fun _=>Yx (Zcv (XC _ _ _)) (fun _=>Zcv (Zcv (XC _ _ _))))) ?_
 unfold Zfj ZlT
 omega
/-
  Plain laws: valid corners.
-/
def Zru (e l:Int):Prop:=100≤e∧e≤l∧l≤5000
def ZfF (c:Zq):Prop:=VO (Zq.Name c)=true∧Zru (Zq.X0 c) (Zq.Jz c)∧Zru (Zq.JL c) (Zq.ZcQ c)
theorem ZtG {c:Zq} (h:sm Yo c):(Zq.Name c).length≤4611686018427387904:=by
 refine Zeu ?_
 first | exact h.1 | exact h.2.1
theorem Zi1 (e l:Int):JO e l=some (tr (Zru e l)):=by
 unfold JO Zru
 exact Xf (fun _=>Xf (fun _=>ZaF decide_eq_true_iff))
theorem Zk9 (c:Zq):ZdI c=some (tr (ZfF c)):=by
 unfold ZdI
 exact Yx (by rw [Zfe];exact ZaF Iff.rfl) (fun _=>Yx (Zi1 _ _) (fun _=>Zcv (Zi1 _ _)))
theorem Zlz (c:Zq) (h:sm Yo c):ZdR c=some (tr (ZfF c)):=by
 unfold ZdR
 rw [Qc (l:=[Zq.X0 c,Zq.Jz c,Zq.JL c,Zq.ZcQ c]) (show List.length _≤_ by simp) (fun _ x=>(100:Int)≤x∧x≤5000) (bad:=false) (good:=tr (VO (Zq.Name c)=true∧Zq.X0 c≤Zq.Jz c∧Zq.JL c≤Zq.ZcQ c))
  (fun k x hx hk _=>by
   simp only [Zbq,show (k:Int)<((List.length [Zq.X0 c,Zq.Jz c,Zq.JL c,Zq.ZcQ c]:Nat):Int) from by omega,if_true,Zt,hx,Bq,QO]
   constructor
   ·intro hh;rw [if_pos (Yl hh)]
   ·intro hh;rw [if_neg (fun q=>hh ((Qx _).1 q))])
  (fun _=>by
   simp only [Zbq,Int.lt_irrefl,if_false,Zaa _ (ZtG h),Bq]
   by_cases a:VO (Zq.Name c)=true
   ·rw [if_pos a]
    by_cases b:Zq.X0 c≤Zq.Jz c
    ·rw [if_pos b]
     congr 2
     exact (ZlF (by rw [decide_eq_true_eq];exact ⟨fun q=>⟨a,b,q⟩,fun q=>q.2.2⟩)).symm
    ·rw [if_neg b,ZK (fun q=>b q.2.1)]
   ·rw [if_neg a,ZK (fun q=>a q.1)]),Zce]
 congr 1
 refine YI ?_
 rw [Q6]
 simp only [List.mem_cons,List.not_mem_nil,or_false,forall_eq_or_imp,forall_eq]
 unfold ZfF Zru
 constructor
 ·rintro ⟨⟨q1,q2,q3,q4⟩,q5,q6,q7⟩;exact ⟨q5,by omega,by omega⟩
 ·rintro ⟨q5,q6,q7⟩;exact ⟨by omega,q5,by omega,by omega⟩
/-
  Plain laws: corners, exceptions, externals.
-/
def Zg6 (l:List Zq):Prop:=l.length≤4∧(∀ c∈l,ZfF c)∧Qp (l.map Zq.Name) l.length
theorem ZjO (l:List Zq) (h:sm (.sl Yo) l):Zco l=some (tr (Zg6 l)):=by
 have hs:=Zw h
 unfold Zco
 rw [Qc (Yv h) (fun k c=>ZfF c∧∀ (j:Nat) (q:Zq),j<k→l[j]?=some q→Zq.Name q≠Zq.Name c) (bad:=false) (good:=tr (l.length≤4))
  (fun k c hx hk _=>by
   simp only [Zae,show (k:Int)<(l.length:Int) from by omega,if_true,Zt,hx,Bq,Zlz c (Zfx h hx)]
   by_cases hC:ZfF c
   ·rw [if_pos (Yl hC),Zit (f:=Zq.Name) (l:=l) (x:=c) (k:=k) (by omega) (by omega) (bad:=.inr false) (good:=.inl (Wq ((k:Int)+1),()))
     (fun j y hj hy=>by
      simp only [Zad,show (j:Int)<(k:Int) from by omega,if_true,Zt,hy,Bq]
      split<;>rfl)
     (by simp only [Zad,Int.lt_irrefl,if_false])]
    constructor
    ·intro hh;rw [Y3 hh.2]
    ·intro hh;rw [YH (fun q=>hh ⟨hC,q⟩)]
   ·rw [if_neg (by rw [ZK hC];simp)]
    exact ⟨fun hh=>absurd hh.1 hC,fun _=>rfl⟩)
  (fun _=>by
   simp only [Zae,Int.lt_irrefl,if_false]
   congr 2
   exact (ZlF (by rw [decide_eq_true_eq];omega)).symm)]
 rw [Zce]
 congr 1
 refine YI ?_
 unfold Zg6
 rw [ZmI,←Q6]
 constructor
 ·rintro ⟨q,q8⟩
  exact ⟨q8,fun k x hx=>(q k x hx).1,fun k x hx=>⟨(q k x hx).1.1,(q k x hx).2⟩⟩
 ·rintro ⟨q8,q1,q2⟩
  exact ⟨fun k x hx=>⟨q1 k x hx,(q2 k x hx).2⟩,q8⟩
theorem ZhO (l:List Zq) (h:sm (.sl Yo) l) (h0:l.length≠0):Zao l=some (tr (Zg6 l)):=by
 have hs:=Zw h
 unfold Zao
 have hlen:(l.map Zq.Name).length=l.length:=by simp
 have:=Zgn (l:=l) (ρ:=Bool) (fun k=>((l.map Zq.Name).take k,(k:Int),())) (fun _ c=>ZfF c) (step:=fun v=>Xx l v.1 v.2.1) (bad:=false) (good:=tr (l.length≤4∧Qp (l.map Zq.Name) l.length))
  (fun k c hx hk _=>by
   have hn:(l.map Zq.Name)[k]?=some (Zq.Name c):=by simp [hx]
   simp only [Xx,show (k:Int)<(l.length:Int) from by omega,if_true,Zt,hx,Bq,Zk9 c]
   rw [Zj (by simp only [List.length_take,List.length_singleton,List.length_map];omega),YP hn,VI (by omega)]
   constructor
   ·intro hh;rw [if_pos (Yl hh)]
   ·intro hh;rw [if_neg (by rw [ZK hh];simp)])
  (fun hA=>by
   have e0:(l.map Zq.Name).take l.length=l.map Zq.Name:=by rw [←hlen,List.take_length]
   simp only [Xx,Int.lt_irrefl,if_false,e0,show V4 l=some (l.length:Int) from rfl,Bq,XC]
   by_cases h4:l.length≤4
   ·rw [if_pos (Yl (by omega)),Qa _ (by rw [hlen];omega),Bq,hlen]
    congr 2
    exact YI ⟨fun q=>⟨h4,q⟩,fun q=>q.2⟩
   ·rw [if_neg (fun q=>h4 (by have:=(Qx _).1 q;omega)),ZK (fun q=>h4 q.1)])
 refine (show Zr (fun v=>Xx l v.1 v.2.1) (([]:List (List UInt8)),(0:Int),())=_ from this).trans ?_
 rw [Zce]
 congr 1
 refine YI ?_
 rw [Q6]
 exact ⟨fun q=>⟨q.2.1,q.1,q.2.2⟩,fun q=>⟨q.2.1,q.1,q.2.2⟩⟩
def ZpG (k v:Int):Prop:=(k=1∧v=0)∨(k=2∧1≤v∧v≤10)∨((k=3∨k=4)∧0≤v∧v≤1000000000)
def ZpF (n:Nat) (l:List Int):Prop:=l.length≤4∧Zg5 l 0 ((n:Int)-1)
def ZlR (n:Nat) (e:Zh):Prop:=ZpF n (Zh.From e)∧ZpF n (Zh.Through e)∧ZpF n (Zh.To e)∧Inc (Zh.From e)∧Inc (Zh.To e)∧ZpG (Zh.Kind e) (Zh.Value e)
theorem Zv3 {e:Zh} (h:sm ZG e):sm (.sl (.int .i64)) (Zh.From e)∧sm (.sl (.int .i64)) (Zh.Through e)∧sm (.sl (.int .i64)) (Zh.To e):=by
 refine ⟨?_,?_,?_⟩
 all_goals first | exact h.1 | exact h.2.1 | exact h.2.2.1 | exact h.2.2.2.1 | exact h.2.2.2.2.1
theorem Zme (k v:Int):ZeL k v=some (tr (ZpG k v)):=by
 unfold ZeL ZpG
 simp only [XC,Bq]
 by_cases k1:k=1
 ·rw [if_pos k1];exact ZaF (by rw [decide_eq_true_eq];omega)
 rw [if_neg k1]
 by_cases k2:k=2
 ·rw [if_pos k2];congr 1;exact YI (by omega)
 rw [if_neg k2]
 by_cases k3:k=3
 ·rw [if_pos k3,if_pos k3];congr 1;exact YI (by omega)
 rw [if_neg k3]
 by_cases k4:k=4
 ·rw [if_pos k4];congr 1;exact YI (by omega)
 ·rw [if_neg k4,ZK (by omega)]
theorem Zfo (v:YT) (e:Zh) (h:sm ZG e) (hn:(YT.places v).length≤1048576):X3 v e=some (tr (ZlR (YT.places v).length e)):=by
 obtain ⟨a1,a2,a3⟩:=Zv3 h
 have e1:Wq (((YT.places v).length:Int)-1)=((YT.places v).length:Int)-1:=Vq (by omega) (by omega)
 unfold X3
 rw [Qc (l:=[Zh.From e,Zh.Through e,Zh.To e]) (show List.length _≤_ by simp) (fun _ x=>ZpF (YT.places v).length x) (bad:=false) (good:=tr (ZpG (Zh.Kind e) (Zh.Value e)∧Inc (Zh.From e)∧Inc (Zh.To e)))
  (fun k x hx hk _=>by
   have hxs:x.length≤1048576:=by
    have:=List.mem_of_getElem? hx
    simp only [List.mem_cons,List.not_mem_nil,or_false] at this
    rcases this with rfl | rfl | rfl
    ·exact Zw a1
    ·exact Zw a2
    ·exact Zw a3
   simp only [QH,show (k:Int)<((List.length [Zh.From e,Zh.Through e,Zh.To e]:Nat):Int) from by omega,if_true,Zt,hx,Bq,show XL (YT.places v)=some ((YT.places v).length:Int) from rfl,e1,ZeB x _ _ hxs]
   unfold ZpF
   by_cases h4:(4:Int)<(x.length:Int)
   ·rw [if_pos h4]
    exact ⟨fun hh=>by omega,fun _=>rfl⟩
   ·rw [if_neg h4]
    constructor
    ·intro hh;rw [if_pos (Yl hh.2)]
    ·intro hh;rw [if_neg (fun q=>hh ⟨by omega,(Qx _).1 q⟩)])
  (fun _=>by
   simp only [QH,Int.lt_irrefl,if_false,Zme,Bq,ZaG _ (Yv (t:=.int .i64) a1),ZaG _ (Yv (t:=.int .i64) a3)]
   by_cases q1:ZpG (Zh.Kind e) (Zh.Value e)
   ·rw [if_pos (Yl q1)]
    by_cases q2:Inc (Zh.From e)
    ·rw [if_pos (Yl q2)]
     congr 2
     exact YI ⟨fun q=>⟨q1,q2,q⟩,fun q=>q.2.2⟩
    ·rw [if_neg (fun q=>q2 ((Qx _).1 q)),ZK (fun q=>q2 q.2.1)]
   ·rw [if_neg (fun q=>q1 ((Qx _).1 q)),ZK (fun q=>q1 q.1)]),Zce]
 congr 1
 refine YI ?_
 rw [Q6]
 simp only [List.mem_cons,List.not_mem_nil,or_false,forall_eq_or_imp,forall_eq]
 unfold ZlR
 exact ⟨fun ⟨⟨q1,q2,q3⟩,q4,q5,q6⟩=>⟨q1,q2,q3,q5,q6,q4⟩,fun ⟨q1,q2,q3,q5,q6,q4⟩=>⟨⟨q1,q2,q3⟩,q4,q5,q6⟩⟩
theorem ZvK {l:List Int}:Inc l↔Zev l (fun k x=>∀ y,0<k→l[k-1]?=some y→y<x):=by
 constructor
 ·intro h k x hx y hk hy
  exact h (k-1) y x hy (by rw [show k-1+1=k by omega];exact hx)
 ·intro h k x y hx hy
  exact h (k+1) y hy x (by omega) hx
theorem ZcO (b:Zn) (hf:Few (Zn.Design b)) (l:List Int) (srt:Bool) (h:sm (.sl (.int .i64)) l):Js b l srt=some (tr (ZpF (places (Zn.Design b)).length l∧(srt=true→Inc l))):=by
 have hs:=Zw h
 have hpl:=Jr hf
 have e1:Wq (((places (Zn.Design b)).length:Int)-1)=((places (Zn.Design b)).length:Int)-1:=Vq (by omega) (by omega)
 have hcnt:ZdX b=some ((places (Zn.Design b)).length:Int):=by unfold ZdX;rw [ZaC _ hf];rfl
 unfold Js
 rw [Qc (Yv h) (fun k x=>(0≤x∧x≤((places (Zn.Design b)).length:Int)-1)∧(srt=true→∀ y,0<k→l[k-1]?=some y→y<x)) (bad:=false) (good:=tr (l.length≤4))
  (fun k x hx hk _=>by
   simp only [ZaS,show (k:Int)<(l.length:Int) from by omega,if_true,Zt,hx,Bq,hcnt,QO,e1]
   by_cases hb:0≤x∧x≤((places (Zn.Design b)).length:Int)-1
   ·rw [if_pos (Yl hb)]
    cases srt
    ·simp only [Bool.false_eq_true,if_false]
     exact ⟨fun _=>trivial,fun hh=>absurd ⟨hb,fun q=>by cases q⟩ hh⟩
    ·simp only [if_true]
     by_cases h0:(0:Int)<(k:Int)
     ·obtain ⟨y,hy⟩:∃ y,l[k-1]?=some y:=⟨_,List.getElem?_eq_getElem (by omega)⟩
      rw [if_pos h0,ZkM (by omega) (by omega),Zt,hy,Bq]
      constructor
      ·intro hh
       rw [if_neg]
       have:=hh.2 trivial y (by omega) rfl
       omega
      ·intro hh
       rw [if_pos]
       apply Classical.byContradiction
       intro hlt
       refine hh ⟨hb,fun _ y' _ hy'=>?_⟩
       injection hy' with hy'
       have:¬x≤y:=hlt
       omega
     ·rw [if_neg h0]
      exact ⟨fun _=>rfl,fun hh=>absurd ⟨hb,fun _ y hk0=>by omega⟩ hh⟩
   ·rw [if_neg (fun q=>hb ((Qx _).1 q))]
    exact ⟨fun hh=>absurd hh.1 hb,fun _=>rfl⟩)
  (fun _=>by
   simp only [ZaS,Int.lt_irrefl,if_false]
   congr 2
   exact (ZlF (by rw [decide_eq_true_eq];omega)).symm),Zce]
 congr 1
 refine YI ?_
 unfold ZpF
 rw [ZvK]
 constructor
 ·rintro ⟨q1,q2⟩
  exact ⟨⟨q2,Q6.1 (fun k x hx=>(q1 k x hx).1)⟩,fun hs k x hx=>(q1 k x hx).2 hs⟩
 ·rintro ⟨⟨q2,q1⟩,q3⟩
  exact ⟨fun k x hx=>⟨q1 x (List.mem_of_getElem? hx),fun hs=>q3 hs k x hx⟩,q2⟩
theorem ZiT (b:Zn) (h:Zrs b) (e:Zh) (he:sm ZG e):Za7 b e=some (tr (ZlR (places (Zn.Design b)).length e)):=by
 obtain ⟨a1,a2,a3⟩:=Zv3 he
 have hf:=h.ok.1.few
 unfold Za7
 rw [Zhw b h.sm,Bq,if_pos (Yl h.ok)]
 refine Zcx (Yx (ZcO b hf _ _ a1) (fun _=>Yx (ZcO b hf _ _ a2) (fun _=>Yx (ZcO b hf _ _ a3) (fun _=>(?_:_=some (tr (ZpG (Zh.Kind e) (Zh.Value e)))))))) ?_
 ·unfold ZpG
  simp only [QO,Bq]
  by_cases k1:Zh.Kind e=1
  ·rw [if_pos k1];exact ZaF (by rw [decide_eq_true_eq];omega)
  rw [if_neg k1]
  by_cases k2:Zh.Kind e=2
  ·rw [if_pos k2];congr 1;exact YI (by omega)
  rw [if_neg k2]
  by_cases k3:Zh.Kind e=3
  ·rw [if_pos k3,if_pos k3];congr 1;exact YI (by omega)
  rw [if_neg k3]
  by_cases k4:Zh.Kind e=4
  ·rw [if_pos k4];congr 1;exact YI (by omega)
  ·rw [if_neg k4,ZK (by omega)]
 ·unfold ZlR
  constructor
  ·rintro ⟨⟨q1,q2⟩,⟨q3,_⟩,⟨q4,q5⟩,q6⟩;exact ⟨q1,q3,q4,q2 rfl,q5 rfl,q6⟩
  ·rintro ⟨q1,q3,q4,q2,q5,q6⟩;exact ⟨⟨q1,fun _=>q2⟩,⟨q3,fun q=>by cases q⟩,⟨q4,fun _=>q5⟩,q6⟩
/-
  Plain laws: externals, setups; the law.
-/
theorem Zrr {ρ:Type} {P Q:Prop} {_:Decidable P} {m:Option ρ} {a b:ρ} (hm:P→m=some (sel Q a b)):(if P then m else some b)=some (sel (P∧Q) a b):=by
 by_cases h:P
 ·rw [if_pos h,hm h]
  by_cases q:Q
  ·rw [Y3 q,Y3 ⟨h,q⟩]
  ·rw [YH q,YH (fun x=>q x.2)]
 ·rw [if_neg h,YH (fun q=>h q.1)]
theorem Zik {ρ:Type} {P Q:Prop} {_:Decidable P} {m:Option ρ} {a b:ρ} (hm:¬P→m=some (sel Q a b)):(if P then some b else m)=some (sel (¬P∧Q) a b):=by
 by_cases h:P
 ·rw [if_pos h,YH (fun q=>q.1 h)]
 ·rw [if_neg h,hm h]
  by_cases q:Q
  ·rw [Y3 q,Y3 ⟨h,q⟩]
  ·rw [YH q,YH (fun x=>q x.2)]
theorem Zfw {ρ:Type} {P Q:Prop} {c:Option Bool} {m:Option ρ} {a b:ρ} (h:c=some (tr P)) (hm:P→m=some (sel Q a b)):(c.bind fun x=>if x=true then m else some b)=some (sel (P∧Q) a b):=by
 rw [h,Bq]
 by_cases hp:P
 ·rw [if_pos (Yl hp),hm hp]
  by_cases q:Q
  ·rw [Y3 q,Y3 ⟨hp,q⟩]
  ·rw [YH q,YH (fun x=>q x.2)]
 ·rw [if_neg (by rw [ZK hp];simp),YH (fun q=>hp q.1)]
theorem ZtY {ρ:Type} {a b:ρ}:some a=some (sel True a b):=by rw [Y3 trivial]
theorem Zij {ρ:Type} {m:Option ρ} {P Q:Prop} {a b:ρ} (h:m=some (sel P a b)) (hpq:P↔Q):m=some (sel Q a b):=by rw [h,propext hpq]
theorem ZqM {ρ:Type} {m:Option ρ} {P:Prop} {a b:ρ} (h:m=some (sel P a b)):(P→m=some a)∧(¬P→m=some b):=⟨fun q=>by rw [h,Y3 q],fun q=>by rw [h,YH q]⟩
def Zoa (s:ZH):Prop:=ZH.Early s≤ZH.Late s∧-100000≤ZH.Early s∧ZH.Late s≤100000
def Zt0 (pl:List Pl) (drv:Bool) (i:Int):Prop:=∃ p,atI pl i=some p∧p.1<0∧p.2.2.2.1=drv
def Zim (pl:List Pl) (nc:Int) (drv:Bool) (l:List Zd) (k:Nat) (x:Zd):Prop :=
 (0≤Zd.Place x∧Zd.Place x≤(pl.length:Int)-1)∧Zt0 pl drv (Zd.Place x)∧(∀ y,0<k→l[k-1]?=some y→Zd.Place y<Zd.Place x)∧
 (0≤Zd.Clock x∧Zd.Clock x≤nc-1)∧Zoa (Zd.Delay x)∧Zfj (Zd.ZaY x)∧(drv=false→ZH.Early (Zd.ZaY x)=0∧ZH.Late (Zd.ZaY x)=0)
def ZgC (pl:List Pl) (nc:Int) (drv:Bool) (l:List Zd):Prop:=Zev l (Zim pl nc drv l)
theorem Zhh (v:YT) (i:Int) (hn:(YT.places v).length≤1048576):QC v i=some (tr (0≤i∧i≤((YT.places v).length:Int)-1)):=by
 unfold QC
 rw [show XL (YT.places v)=some ((YT.places v).length:Int) from rfl,Bq,Vq (by omega) (by omega)]
 exact Zcv (XC _ _ _)
theorem ZlQ {s:ZH}:(Decidable.decide (ZH.Early s=(0:Int))&&Decidable.decide (ZH.Late s=(0:Int)))=true↔ZH.Early s=0∧ZH.Late s=0:=by simp
theorem Zdk {pl:List Pl} {drv:Bool} {i:Int} {p:Pl} (h:atI pl i=some p):Zt0 pl drv i↔¬(0:Int)≤p.1∧(p.2.2.2.1 == drv)=true:=by
 unfold Zt0
 rw [h,beq_iff_eq]
 constructor
 ·rintro ⟨q,q1,q2,q3⟩
  injection q1 with q1
  subst q1
  exact ⟨by omega,q3⟩
 ·rintro ⟨q1,q2⟩
  exact ⟨p,rfl,by omega,q2⟩
theorem ZhA {l:List Zd} {k:Nat} {x y:Zd} (hk:0<k) (hy:l[k-1]?=some y):(∀ y,0<k→l[k-1]?=some y→Zd.Place y<Zd.Place x)↔¬Zd.Place x≤Zd.Place y:=by
 constructor
 ·intro h
  have:=h y hk hy
  omega
 ·intro h z _ hz
  rw [hy] at hz
  injection hz with hz
  subst hz
  omega
theorem ZfH {l:List Zd} {k:Nat} {x:Zd} (hk:¬0<k):(∀ y,0<k→l[k-1]?=some y→Zd.Place y<Zd.Place x)↔True:=⟨fun _=>trivial,fun _ y h=>absurd h hk⟩
theorem ZdB (v:YT) (l:List Zd) (drv:Bool) (nc:Int) (h:sm (.sl ZQ) l) (hn:(YT.places v).length≤1048576) (h0:0≤nc) (h1:nc≤1048576):XM v l drv nc=some (tr (ZgC (YT.places v) nc drv l)):=by
 have hs:=Zw h
 have e1:Wq (nc-1)=nc-1:=Vq (by omega) (by omega)
 unfold XM
 rw [Qc (Yv h) (Zim (YT.places v) nc drv l) (bad:=false) (good:=true)
  (fun k x hx hk _=>by
   refine ZqM ?_
   simp only [Qs,show (k:Int)<(l.length:Int) from by omega,if_true,Zt,hx,Bq,e1]
   refine Zij (Q:=Zim (YT.places v) nc drv l k x) (P:=(0≤Zd.Place x∧Zd.Place x≤((YT.places v).length:Int)-1)∧Zim (YT.places v) nc drv l k x) (Zfw (Zhh v _ hn) (fun hp=>?_)) ⟨fun q=>q.2,fun q=>⟨q.1,q⟩⟩
   obtain ⟨p,hp1,_⟩:=Zoh hp.1 (show Zd.Place x<((YT.places v).length:Int) by omega)
   rw [hp1,Bq]
   by_cases hk0:0<k
   ·obtain ⟨y,hy⟩:∃ y,l[k-1]?=some y:=⟨_,List.getElem?_eq_getElem (by omega)⟩
    rw [if_pos (show (0:Int)<(k:Int) by omega),ZkM (by omega) (by omega),Zt,hy,Bq]
    cases drv
    ·simp only [Bool.false_eq_true,if_false]
     refine Zij (Zik (fun _=>Zrr (fun _=>Zik (fun _=>Zfw (XC _ _ _) (fun _=>Zfw (ZaU _) (fun _=>Zik (fun _=>Zik (fun _=>Zrr (fun _=>ZtY))))))))) ?_
     unfold Zim
     rw [Zdk hp1,ZhA hk0 hy,ZlQ]
     unfold Zoa Zfj ZlT
     grind
    ·simp only [if_true]
     refine Zij (Zik (fun _=>Zrr (fun _=>Zik (fun _=>Zfw (XC _ _ _) (fun _=>Zfw (ZaU _) (fun _=>Zik (fun _=>Zik (fun _=>Zfw (ZgG _) (fun _=>ZtY))))))))) ?_
     unfold Zim
     rw [Zdk hp1,ZhA hk0 hy]
     unfold Zoa Zfj ZlT
     grind
   ·rw [if_neg (show ¬(0:Int)<(k:Int) by omega)]
    cases drv
    ·simp only [Bool.false_eq_true,if_false]
     refine Zij (Zik (fun _=>Zrr (fun _=>Zfw (XC _ _ _) (fun _=>Zfw (ZaU _) (fun _=>Zik (fun _=>Zik (fun _=>Zrr (fun _=>ZtY)))))))) ?_
     unfold Zim
     rw [Zdk hp1,ZfH hk0,ZlQ]
     unfold Zoa Zfj ZlT
     grind
    ·simp only [if_true]
     refine Zij (Zik (fun _=>Zrr (fun _=>Zfw (XC _ _ _) (fun _=>Zfw (ZaU _) (fun _=>Zik (fun _=>Zik (fun _=>Zfw (ZgG _) (fun _=>ZtY)))))))) ?_
     unfold Zim
     rw [Zdk hp1,ZfH hk0]
     unfold Zoa Zfj ZlT
     grind)
  (fun _=>by simp only [Qs,Int.lt_irrefl,if_false]),Zk1]
 rfl
theorem ZdE (b:Zn) (s:Zm) (l:List Zd) (drv:Bool) (h:sm (.sl ZQ) l) (hf:Few (Zn.Design b)) (hc:(Zm.ZE s).length≤1048576):VG b s l drv=some (tr (ZgC (places (Zn.Design b)) ((Zm.ZE s).length:Int) drv l)):=by
 have hs:=Zw h
 have hpl:=Jr hf
 have e1:Wq (((Zm.ZE s).length:Int)-1)=((Zm.ZE s).length:Int)-1:=Vq (by omega) (by omega)
 have e2:Wq (((places (Zn.Design b)).length:Int)-1)=((places (Zn.Design b)).length:Int)-1:=Vq (by omega) (by omega)
 unfold VG
 rw [ZaC _ hf,Bq]
 rw [Qc (Yv h) (Zim (places (Zn.Design b)) ((Zm.ZE s).length:Int) drv l) (bad:=false) (good:=true)
  (fun k x hx hk _=>by
   refine ZqM ?_
   simp only [Jc,show (k:Int)<(l.length:Int) from by omega,if_true,Zt,hx,Bq,e1,e2]
   refine Zij (Q:=Zim (places (Zn.Design b)) ((Zm.ZE s).length:Int) drv l k x) (P:=(0≤Zd.Place x∧Zd.Place x≤((places (Zn.Design b)).length:Int)-1)∧Zim (places (Zn.Design b)) ((Zm.ZE s).length:Int) drv l k x) (Zfw (QO _ _ _) (fun hp=>?_)) ⟨fun q=>q.2,fun q=>⟨q.1,q⟩⟩
   obtain ⟨p,hp1,_⟩:=Zoh hp.1 (show Zd.Place x<((places (Zn.Design b)).length:Int) by omega)
   rw [hp1]
   simp only [Bq]
   by_cases hk0:0<k
   ·obtain ⟨y,hy⟩:∃ y,l[k-1]?=some y:=⟨_,List.getElem?_eq_getElem (by omega)⟩
    rw [if_pos (show (0:Int)<(k:Int) by omega),ZkM (by omega) (by omega),Zt,hy,Bq]
    cases drv
    ·simp only [Bool.false_eq_true,if_false]
     refine Zij (Zik (fun _=>Zfw (QO _ _ _) (fun _=>Zik (fun _=>Zrr (fun _=>Zik (fun _=>Zik (fun _=>Zik (fun _=>Zfw (Za9 _) (fun _=>Zrr (fun _=>ZtY)))))))))) ?_
     unfold Zim
     rw [Zdk hp1,ZhA hk0 hy,ZlQ]
     unfold Zoa Zfj
     grind
    ·simp only [if_true]
     refine Zij (Zik (fun _=>Zfw (QO _ _ _) (fun _=>Zik (fun _=>Zrr (fun _=>Zik (fun _=>Zik (fun _=>Zik (fun _=>Zfw (Za9 _) (fun _=>ZtY))))))))) ?_
     unfold Zim
     rw [Zdk hp1,ZhA hk0 hy]
     unfold Zoa Zfj
     grind
   ·rw [if_neg (show ¬(0:Int)<(k:Int) by omega)]
    cases drv
    ·simp only [Bool.false_eq_true,if_false]
     refine Zij (Zfw (QO _ _ _) (fun _=>Zik (fun _=>Zrr (fun _=>Zik (fun _=>Zik (fun _=>Zik (fun _=>Zfw (Za9 _) (fun _=>Zrr (fun _=>ZtY))))))))) ?_
     unfold Zim
     rw [Zdk hp1,ZfH hk0,ZlQ]
     unfold Zoa Zfj
     grind
    ·simp only [if_true]
     refine Zij (Zfw (QO _ _ _) (fun _=>Zik (fun _=>Zrr (fun _=>Zik (fun _=>Zik (fun _=>Zik (fun _=>Zfw (Za9 _) (fun _=>ZtY)))))))) ?_
     unfold Zim
     rw [Zdk hp1,ZfH hk0]
     unfold Zoa Zfj
     grind)
  (fun _=>by simp only [Jc,Int.lt_irrefl,if_false]),Zk1]
 rfl
theorem ZsI {s:Zm} (h:sm XG s):sm (.sl YA) (Zm.ZE s)∧sm (.sl ZQ) (Zm.QE s)∧sm (.sl ZQ) (Zm.Zdo s)∧sm (.sl ZG) (Zm.Exceptions s)∧sm (.sl Yo) (Zm.Zct s):=by
 refine ⟨?_,?_,?_,?_,?_⟩
 all_goals first | exact h.1 | exact h.2.1 | exact h.2.2.1 | exact h.2.2.2.1 | exact h.2.2.2.2.1
theorem ZtF {l:List Zb} (h:sm (.sl YA) l):ZtV l:=by
 intro c hc
 have:=Zn2 h hc
 refine Zeu ?_
 first | exact this.1 | exact this.2.1
def Zk4 (pl:List Pl) (s:Zm):Prop :=
 ZfE (Zm.ZE s)∧(∀ c∈Zm.ZE s,Zb.Place c<(pl.length:Int))∧ZgC pl ((Zm.ZE s).length:Int) true (Zm.QE s)∧ZgC pl ((Zm.ZE s).length:Int) false (Zm.Zdo s)∧
 (Zm.Exceptions s).length≤6∧(∀ e∈Zm.Exceptions s,ZlR pl.length e)∧Zg6 (Zm.Zct s)
theorem ZfE.place {l:List Zb} (h:ZfE l) {c:Zb} (hc:c∈l):0≤Zb.Place c:=by
 obtain ⟨k,hk⟩:=List.mem_iff_getElem?.1 hc
 have h1:=h.2.1 k c (by have:=(List.getElem?_eq_some_iff.1 hk).1;omega) hk
 unfold ZfI ZiO at h1
 simp only [Bool.and_eq_true,decide_eq_true_eq] at h1
 exact h1.1.1.1.1.1
theorem Zmd (v:YT) (s:Zm) (h:sm XG s) (hn:(YT.places v).length≤1048576):Zas v s=some (tr (Zk4 (YT.places v) s)):=by
 obtain ⟨a1,a2,a3,a4,a5⟩:=ZsI h
 have s1:=Zw a1
 unfold Zas
 rw [show Ju (Zm.ZE s)=some ((Zm.ZE s).length:Int) from rfl,Bq]
 refine Zcx (Yx (Zk8 _) (fun hC=>Zqg (P:=¬∀ c∈Zm.ZE s,Zb.Place c<((YT.places v).length:Int)) ?_ (fun _=>Yx (ZdB v _ true _ a2 hn (by omega) (by omega)) (fun _=>Yx (ZdB v _ false _ a3 hn (by omega) (by omega)) (fun _=>Zd6 (fun _=>Zqg (P:=¬∀ e∈Zm.Exceptions s,ZlR (YT.places v).length e) ?_ (fun _=>(?_:_=some (tr (Zg6 (Zm.Zct s))))))))))) ?_
 ·rw [Xi (Yv a1) (fun c=>!tr (0≤Zb.Place c∧Zb.Place c≤((YT.places v).length:Int)-1)) (fun c _=>by
   unfold Qk
   show (QC v (Zb.Place c)).bind _=_
   rw [Zhh v _ hn];rfl)]
  refine ZaF ?_
  rw [List.any_eq_true]
  constructor
  ·rintro ⟨c,hc,hb⟩ hall
   have:=hall c hc
   have h0:=hC.place hc
   rw [Yl (by omega)] at hb
   cases hb
  ·intro hh
   apply Classical.byContradiction
   intro hne
   refine hh (fun c hc=>?_)
   apply Classical.byContradiction
   intro hlt
   exact hne ⟨c,hc,by rw [ZK (by omega)];rfl⟩
 ·rw [Y4 (Yv a4) (fun e=>!tr (ZlR (YT.places v).length e)) (fun e he=>by
   unfold Ql
   show (X3 v e).bind _=_
   rw [Zfo v e (Zn2 a4 he) hn];rfl)]
  refine ZaF ?_
  rw [List.any_eq_true]
  constructor
  ·rintro ⟨c,hc,hb⟩ hall
   rw [Yl (hall c hc)] at hb
   cases hb
  ·intro hh
   apply Classical.byContradiction
   intro hne
   refine hh (fun c hc=>?_)
   apply Classical.byContradiction
   intro hlt
   exact hne ⟨c,hc,by rw [ZK hlt];rfl⟩
 ·by_cases h0:(Zm.Zct s).length=0
  ·rw [if_pos (by omega)]
   refine ZaF ⟨fun _=>?_,fun _=>rfl⟩
   have:Zm.Zct s=[]:=List.eq_nil_of_length_eq_zero h0
   rw [this]
   exact ⟨by simp,fun c hc=>(by cases hc),fun j _ hj=>(by simp at hj)⟩
  ·rw [if_neg (by omega),ZhO _ a5 h0];rfl
 ·unfold Zk4
  simp only [Classical.not_not]
  constructor
  ·rintro ⟨q1,q2,q3,q4,q5,q6,q7⟩;exact ⟨q1,q2,q3,q4,by omega,q6,q7⟩
  ·rintro ⟨q1,q2,q3,q4,q5,q6,q7⟩;exact ⟨q1,q2,q3,q4,by omega,q6,q7⟩
def Zob (b:Zn) (s:Zm):Prop:=ZjT b∧Zk4 (places (Zn.Design b)) s
theorem Zl7 (b:Zn) (s:Zm) (hb:sm Y2 b) (hs:sm XG s):ZeG b s=some (tr (Zob b s)):=by
 unfold ZeG
 refine Yx (Zl6 b hb) (fun hB=>?_)
 obtain ⟨v,h1,h2,_⟩:=ZpY ⟨hB,hb⟩
 have hpl:=Jr hB.1.few
 rw [h1,Bq,Zmd v s hs (by rw [h2];omega),h2];rfl
theorem ZmY (b:Zn) (s:Zm) (hb:sm Y2 b) (hs:sm XG s):Ze4 b s=some (tr (Zob b s)):=by
 obtain ⟨a1,a2,a3,a4,a5⟩:=ZsI hs
 have s1:=Zw a1
 have s4:=Zw a4
 unfold Ze4
 refine Zcx (Yx (Zhw b hb) (fun hB=>Yx (Zly _ (ZtF a1) (by omega)) (fun hC=>Zd6 (fun _=>Yx (ZjO _ a5) (fun _=>(?_:_=some (tr (Zev (Zm.ZE s) (fun _ c=>Zb.Place c<((places (Zn.Design b)).length:Int))∧Zev (Zm.Exceptions s) (fun _ e=>ZlR (places (Zn.Design b)).length e)∧ZgC (places (Zn.Design b)) ((Zm.ZE s).length:Int) true (Zm.QE s)∧ZgC (places (Zn.Design b)) ((Zm.ZE s).length:Int) false (Zm.Zdo s))))))))) ?_
 ·have hf:=hB.1.few
  have hpl:=Jr hf
  rw [Qc (Yv a1) (fun _ c=>Zb.Place c<((places (Zn.Design b)).length:Int)) (bad:=false) (good:=tr (Zev (Zm.Exceptions s) (fun _ e=>ZlR (places (Zn.Design b)).length e)∧ZgC (places (Zn.Design b)) ((Zm.ZE s).length:Int) true (Zm.QE s)∧ZgC (places (Zn.Design b)) ((Zm.ZE s).length:Int) false (Zm.Zdo s)))
   (fun k c hx hk _=>by
    simp only [Zci,show (k:Int)<((Zm.ZE s).length:Int) from by omega,if_true,Zt,hx,Bq,ZaC _ hf]
    constructor
    ·intro hh;rw [if_neg (by omega)]
    ·intro hh;rw [if_pos (by omega)])
   (fun _=>by
    simp only [Zci,Int.lt_irrefl,if_false]
    rw [Qc (Yv a4) (fun _ e=>ZlR (places (Zn.Design b)).length e) (bad:=.inr false) (good:=.inr (tr (ZgC (places (Zn.Design b)) ((Zm.ZE s).length:Int) true (Zm.QE s)∧ZgC (places (Zn.Design b)) ((Zm.ZE s).length:Int) false (Zm.Zdo s))))
     (fun k e hx hk _=>by
      simp only [Zch,show (k:Int)<((Zm.Exceptions s).length:Int) from by omega,if_true,Zt,hx,Bq,ZiT b ⟨hB,hb⟩ e (Zfx a4 hx)]
      constructor
      ·intro hh;rw [if_pos (Yl hh)]
      ·intro hh;rw [if_neg (fun q=>hh ((Qx _).1 q))])
     (fun _=>by
      simp only [Zch,Int.lt_irrefl,if_false,ZdE b s _ _ a2 hf s1,ZdE b s _ _ a3 hf s1,Bq]
      by_cases q1:ZgC (places (Zn.Design b)) ((Zm.ZE s).length:Int) true (Zm.QE s)
      ·rw [if_pos (Yl q1)]
       congr 3
       exact YI ⟨fun q=>⟨q1,q⟩,fun q=>q.2⟩
      ·rw [if_neg (fun q=>q1 ((Qx _).1 q)),ZK (fun q=>q1 q.1)])]
    congr 1
    by_cases q1:Zev (Zm.Exceptions s) (fun _ e=>ZlR (places (Zn.Design b)).length e)
    ·rw [Y3 q1]
     congr 1
     exact YI ⟨fun q=>⟨q1,q⟩,fun q=>q.2⟩
    ·rw [YH q1,ZK (fun q=>q1 q.1)]),Zce]
 ·unfold Zob Zk4
  rw [Q6,Q6]
  constructor
  ·rintro ⟨q1,q2,q3,q4,q5,q6,q7,q8⟩;exact ⟨q1,q2,q5,q7,q8,by omega,q6,q4⟩
  ·rintro ⟨q1,q2,q5,q7,q8,q3,q6,q4⟩;exact ⟨q1,q2,by omega,q4,q5,q6,q7,q8⟩
end Go.Proofs.YtpiemlnhjobopaaGreatDoor
