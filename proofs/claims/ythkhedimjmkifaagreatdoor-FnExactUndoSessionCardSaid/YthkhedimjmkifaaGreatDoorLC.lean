/-
  Plain laws: designs.
-/
import Derived.Test.YthkhedimjmkifaaGreatDoorLB
import Derived.Test.YthkhedimjmkifaaGreatDoorLA
namespace Go.Proofs.YthkhedimjmkifaaGreatDoor
set_option linter.unusedVariables false
set_option linter.unusedSimpArgs false
open Go Go.Sx
theorem Za4 {d:Zb} (h:sm YG d):sm (.sl Yq) (Zb.Instances d)∧sm (.sl Zcd) (Zb.ZG d)∧sm (.sl .str) (Zb.ZI d):=by
 refine ⟨?_,?_,?_⟩
 ·first | exact h.1 | exact h.2.1 | exact h.2.2.1 | exact h.2.2.2.1
 ·first | exact h.1 | exact h.2.1 | exact h.2.2.1 | exact h.2.2.2.1
 ·first | exact h.1 | exact h.2.1 | exact h.2.2.1 | exact h.2.2.2.1
theorem Zkk {x:Ze} (h:sm Yq x):sm .str (Ze.Name x)∧sm (.sl (.int .i64)) (Ze.ZI x):=by
 refine ⟨?_,?_⟩
 ·first | exact h.1 | exact h.2.1 | exact h.2.2.1 | exact h.2.2.2.1
 ·first | exact h.1 | exact h.2.1 | exact h.2.2.1 | exact h.2.2.2.1
theorem Zzq {x:ZR} (h:sm Zcd x):sm .str (ZR.Name x):=by
 first | exact h.1 | exact h.2.1 | exact h.2.2.1 | exact h.2.2.2.1
theorem Zh3 (d:Zb) (h:sm YG d):JB d=some (tr (Zmb d)):=by
 obtain ⟨h1,h2,h3⟩:=Za4 h
 have s1:=Zp h1
 have s2:=Zp h2
 have s3:=Zp h3
 unfold JB
 refine gather (l:=Zb.Instances d) s1 Ze.Name (fun k x o hx hk ho=>?_) ?_
 ·simp only [V6,hk,if_true,Zu,hx,Bq]
 simp only [V6,Int.lt_irrefl,if_false]
 have hi:(Zaa d).length=(Zb.Instances d).length:=by simp [Zaa]
 have hp:(Zb1 d).length=(Zb.ZG d).length:=by simp [Zb1]
 refine gather (l:=Zb.ZG d) s2 ZR.Name (fun k x o hx hk ho=>?_) ?_
 ·simp only [V5,hk,if_true,Zu,hx,Bq]
 simp only [V5,Int.lt_irrefl,if_false]
 rw [show List.map ZR.Name (Zb.ZG d)=Zb1 d from rfl,show List.map Ze.Name (Zb.Instances d)=Zaa d from rfl]
 simp only [hi,hp,QY _ (show (Zaa d).length≤4611686018427387904 by omega),QY _ (show (Zb1 d).length≤4611686018427387904 by omega),QY _ (show (Zb.ZI d).length≤4611686018427387904 by omega),Bq]
 unfold Zmb
 rw [hi,hp]
 by_cases a:(Zb.Instances d).length≤14
 ·rw [if_pos (by omega)]
  by_cases b:(Zb.ZI d).length≤30
  ·rw [if_pos (by omega)]
   by_cases c:(Zb.ZG d).length≤8
   ·rw [if_pos (by omega)]
    by_cases e:X7 (Zaa d) (Zb.Instances d).length
    ·rw [if_pos (Yb e)]
     by_cases f:X7 (Zb.ZI d) (Zb.ZI d).length
     ·rw [if_pos (Yb f)]
      congr 3
      exact YB ⟨fun q=>⟨a,b,c,e,f,q⟩,fun q=>q.2.2.2.2.2⟩
     ·rw [if_neg (by rw [ZQ f];simp),ZQ (fun q=>f q.2.2.2.2.1)]
    ·rw [if_neg (by rw [ZQ e];simp),ZQ (fun q=>e q.2.2.2.1)]
   ·rw [if_neg (by omega),ZQ (fun q=>c q.2.2.1)]
  ·rw [if_neg (by omega),ZQ (fun q=>b q.2.1)]
 ·rw [if_neg (by omega),ZQ (fun q=>a q.1)]
def ZnR (n:Nat) (s:List Int):List Int:=(List.range n).map (fun (j:Nat)=>((s.countP (fun x=>decide (x=(j:Int))):Nat):Int))
theorem ZhM (n:Nat) (s:List Int):(ZnR n s).length=n:=by simp [ZnR]
theorem Zq2 (n:Nat):ZnR n []=List.replicate n 0:=by
 apply List.ext_getElem?
 intro i
 simp only [ZnR,List.countP_nil,List.getElem?_map,List.getElem?_replicate,List.getElem?_range]
 by_cases h:i<n
 ·simp [h]
 ·simp [h]
theorem Zjo {n:Nat} {s:List Int} {j:Nat} (h:j<n):(ZnR n s)[j]?=some ((s.countP (fun x=>decide (x=(j:Int))):Nat):Int):=by
 simp [ZnR,h]
theorem ZAk {n:Nat} {s:List Int} {x:Int} (h0:0≤x) (h1:x<(n:Int)):atI (ZnR n s) x=some ((s.countP (fun y=>decide (y=x)):Nat):Int):=by
 refine XI h0 ?_
 rw [Zjo (by omega),show ((x.toNat:Nat):Int)=x by omega]
theorem Zyp {n:Nat} {s:List Int} {x:Int} (h0:0≤x) (h1:x<(n:Int)):List.set (ZnR n s) (Int.toNat x) (((s.countP (fun y=>decide (y=x)):Nat):Int)+1)=ZnR n (s++[x]):=by
 apply List.ext_getElem?
 intro i
 rw [List.getElem?_set]
 by_cases hi:i<n
 ·rw [Zjo hi,Zjo hi,List.countP_append,ZhM]
  by_cases e:x.toNat=i
  ·subst e
   rw [if_pos rfl,if_pos (by omega),show ((x.toNat:Nat):Int)=x by omega]
   simp
  ·rw [if_neg e]
   have:¬x=(i:Int):=by omega
   simp [List.countP_cons,this]
 ·have h1:(ZnR n s)[i]?=none:=by rw [List.getElem?_eq_none];rw [ZhM];omega
  have h2:(ZnR n (s++[x]))[i]?=none:=by rw [List.getElem?_eq_none];rw [ZhM];omega
  rw [h1,h2]
  split
  ·split
   ·rename_i h3;rw [ZhM] at h3;omega
   ·rfl
  ·rfl
theorem ZiS {n:Nat} {s:List Int} {x:Int} (h0:0≤x) (h1:x<(n:Int)) (hs:s.length≤1048576000) {τ:Type} (F:List Int→Option τ) :
  ((atI (ZnR n s) x).bind fun y=>F (List.set (ZnR n s) (Int.toNat x) (Wq (y+1))))=F (ZnR n (s++[x])):=by
 have h2:=List.countP_le_length (p:=fun y=>decide (y=x)) (l:=s)
 rw [ZAk h0 h1,Bq,Jr (by omega) (by omega),Zyp h0 h1]
def XM (x:Ze):Int:=(Ze.ZI x).getLastD 0
def ZaX (d:Zb) (n:Int):Prop:=0≤n∧n≤((Zb.ZI d).length:Int)-1
def Zkj (a:Zo) (d:Zb) (x:Ze):Prop :=
 (0≤Ze.Cell x∧Ze.Cell x≤((Zo.Cells a).length:Int)-1)∧(∃ c,(Zo.Cells a)[(Ze.Cell x).toNat]?=some c∧(Ze.ZI x).length=(Zm.Yw c).length)∧∀ n∈Ze.ZI x,ZaX d n
def Zky (d:Zb) (p:ZR):Prop:=(1≤ZR.Dir p∧ZR.Dir p≤2)∧ZaX d (ZR.Net p)
def Zpy (d:Zb):List Int:=(Zb.Instances d).map XM++((Zb.ZG d).filter (fun p=>decide (ZR.Dir p=1))).map ZR.Net
def Zhr (d:Zb):Prop:=∀ x∈ZnR (Zb.ZI d).length (Zpy d),x=1
def Qh (a:Zo) (d:Zb):Prop:=Ztv a∧Zmb d∧(∀ x∈Zb.Instances d,Zkj a d x)∧(∀ p∈Zb.ZG d,Zky d p)∧Zhr d
theorem Zkj.last {a:Zo} {d:Zb} {x:Ze} (h:Zkj a d x) (hl:Ztv a) (hsm:(Ze.ZI x).length≤1048576):atI (Ze.ZI x) (Wq (((Ze.ZI x).length:Int)-1))=some (XM x)∧ZaX d (XM x):=by
 obtain ⟨_,⟨c,hc,hn⟩,hall⟩:=h
 have h2:2≤(Zm.Yw c).length:=(hl.2.1 c (List.mem_of_getElem? hc)).2.1.1
 unfold XM
 cases hN:Ze.ZI x with
 | nil=>rw [hN] at hn;simp at hn;omega
 | cons y r =>
  rw [hN] at hsm
  rw [ZnN hsm (by simp),Zu]
  have e:(y::r)[(y::r).length-1]?=some ((y::r).getLastD 0):=by
   rw [←List.getLast?_eq_getElem?,List.getLastD_eq_getLast?,List.getLast?_cons];rfl
  exact ⟨e,hall _ (by rw [hN];exact List.mem_of_getElem? e)⟩
theorem ZbZ (d:Zb) (n:Int) (h:sm YG d):YU d n=some (tr (ZaX d n)):=by
 have s3:=Zp (Za4 h).2.2
 unfold YU
 rw [show Xr (Zb.ZI d)=some ((Zb.ZI d).length:Int) from rfl,Bq,Jr (by omega) (by omega)]
 exact Jt (Xv _ _ _)
theorem Zg8 (d:Zb) (a:Zo) (x:Ze) (hd:sm YG d) (ha:sm Xh a) (hx:sm Yq x):VT d a x=some (tr (Zkj a d x)):=by
 have sa:=Zp (Zqk ha)
 unfold VT
 rw [show X3 (Zo.Cells a)=some ((Zo.Cells a).length:Int) from rfl,Bq,Jr (by omega) (by omega)]
 refine Vb (P:=(0≤Ze.Cell x∧Ze.Cell x≤((Zo.Cells a).length:Int)-1)∧Zkj a d x) (YA (Xv _ _ _) (fun hw=>?_)) ⟨fun q=>q.2,fun q=>⟨q.1,q⟩⟩
 obtain ⟨c,hc1,hc2⟩:=Zqy hw.1 (show Ze.Cell x<((Zo.Cells a).length:Int) by omega)
 rw [hc1,Bq]
 refine Vb (P:=((Ze.ZI x).length:Int)=((Zm.Yw c).length:Int)∧∀ n∈Ze.ZI x,ZaX d n) (Yv (fun he=>?_)) ?_
 ·rw [Qa (YL (Zkk hx).2) (fun n=>!tr (ZaX d n)) (fun n _=>by
   unfold XR
   show (YU d n).bind _=_
   rw [ZbZ d n hd];rfl),Bq]
  refine Jw ?_
  rw [Bool.not_eq_true',List.any_eq_false]
  constructor
  ·intro q n hn
   have:=q n hn
   simp only [Bool.not_eq_true',Bool.not_eq_false] at this
   exact (Y9 _).1 this
  ·intro q n hn
   simp only [Bool.not_eq_true',Bool.not_eq_false]
   exact Yb (q n hn)
 ·constructor
  ·rintro ⟨q1,q2⟩;exact ⟨hw,⟨c,hc2,by omega⟩,q2⟩
  ·rintro ⟨_,⟨c',q1,q2⟩,q3⟩
   rw [hc2] at q1;injection q1 with q1;subst q1
   exact ⟨by omega,q3⟩
theorem ZuF {d:Zb} {k:Nat} {p:ZR} (hx:(Zb.ZG d)[k]?=some p) (s:List Int) :
  s++(((Zb.ZG d).take (k+1)).filter (fun p=>decide (ZR.Dir p=1))).map ZR.Net=(if ZR.Dir p=1 then (s++(((Zb.ZG d).take k).filter (fun p=>decide (ZR.Dir p=1))).map ZR.Net)++[ZR.Net p] else s++(((Zb.ZG d).take k).filter (fun p=>decide (ZR.Dir p=1))).map ZR.Net):=by
 rw [Z8 hx,List.filter_append,List.map_append]
 by_cases h:ZR.Dir p=1
 ·rw [if_pos h];simp [h]
 ·rw [if_neg h];simp [h]
theorem Zwf {d:Zb} (k m:Nat):(((Zb.Instances d).take m).map XM++(((Zb.ZG d).take k).filter (fun p=>decide (ZR.Dir p=1))).map ZR.Net).length≤(Zb.Instances d).length+(Zb.ZG d).length:=by
 have h:=List.length_filter_le (fun p=>decide (ZR.Dir p=1)) ((Zb.ZG d).take k)
 simp only [List.length_append,List.length_map,List.length_take] at h ⊢
 omega
theorem ZnU (a:Zo) (d:Zb) (ha:sm Xh a) (hd:sm YG d):Zfr a d=some (tr (Qh a d)):=by
 obtain ⟨h1,h2,h3⟩:=Za4 hd
 have s1:=Zp h1
 have s2:=Zp h2
 have s3:=Zp h3
 unfold Zfr
 refine Vb (P:=Ztv a∧Zmb d∧(ZeY (Zb.Instances d) (fun _ x=>Zkj a d x)∧(ZeY (Zb.ZG d) (fun _ p=>Zky d p)∧Zhr d))) (YA (Znr a ha) (fun hL=>YA (Zh3 d hd) (fun hN=>?_))) (by rw [V9,V9];exact Iff.rfl)
 rw [Zi (by omega),Zi (by omega),Zi (by omega),Zi (by omega)]
 have:=ZgW (l:=Zb.Instances d) (ρ:=Bool) (fun k=>((k:Int),ZnR (Zb.ZI d).length (((Zb.Instances d).take k).map XM),())) (fun _ x=>Zkj a d x) (step:=fun v=>Zap a d v.1 v.2.1) (bad:=false) (good:=tr (ZeY (Zb.ZG d) (fun _ p=>Zky d p)∧Zhr d))
  (fun k x hx hk _=>by
   have hsx:=QV h1 hx
   simp only [Zap,show (k:Int)<((Zb.Instances d).length:Int) from by omega,if_true,Zu,hx,Bq,Zg8 d a x hd ha hsx]
   constructor
   ·intro hh
    obtain ⟨e1,e2⟩:=hh.last hL (Zp (Zkk hsx).2)
    rw [if_pos (Yb hh),e1,Bq,ZiS e2.1 (by have:=e2.2;omega) (by simp only [List.length_map,List.length_take];omega) (F:=fun o=>some (Sum.inl (Wq ((k:Int)+1),o,()))),Z8 hx,List.map_append,Xx (by omega)]
    rfl
   ·intro hh;rw [if_neg (by rw [ZQ hh];simp)])
  (fun hA=>by
   simp only [Zap,Int.lt_irrefl,if_false,List.take_length]
   have:=ZgW (l:=Zb.ZG d) (ρ:=Int×List Int×Unit ⊕ Bool) (fun k=>((k:Int),ZnR (Zb.ZI d).length ((Zb.Instances d).map XM++(((Zb.ZG d).take k).filter (fun p=>decide (ZR.Dir p=1))).map ZR.Net),())) (fun _ p=>Zky d p) (step:=fun v=>VF d v.1 v.2.1) (bad:=.inr false) (good:=.inr (tr (Zhr d)))
    (fun k p hx hk _=>by
     have hl:=Zwf (d:=d) k (Zb.Instances d).length
     rw [List.take_length] at hl
     simp only [VF,show (k:Int)<((Zb.ZG d).length:Int) from by omega,if_true,Zu,hx,Bq,ZbZ d _ hd,ZuF hx]
     by_cases d1:ZR.Dir p=1
     ·simp only [d1,if_true]
      constructor
      ·intro hh
       rw [if_pos (Yb hh.2),ZiS hh.2.1 (by have:=hh.2.2;omega) (by omega) (F:=fun o=>some (Sum.inl (Wq ((k:Int)+1),o,()))),Xx (by omega)]
      ·intro hh
       rw [if_neg (by rw [ZQ (fun q=>hh ⟨by omega,q⟩)];simp)]
     ·simp only [d1,if_false]
      by_cases d2:ZR.Dir p=2
      ·simp only [d2,if_true]
       constructor
       ·intro hh
        rw [if_pos (Yb hh.2),Xx (by omega)]
       ·intro hh
        rw [if_neg (by rw [ZQ (fun q=>hh ⟨by omega,q⟩)];simp)]
      ·simp only [d2,if_false]
       exact ⟨fun hh=>by have:=hh.1;omega,fun _=>trivial⟩)
    (fun _=>by
     simp only [VF,Int.lt_irrefl,if_false,List.take_length]
     rw [VG (show Len _ by show List.length _≤_;rw [ZhM];omega) (fun n=>!decide (n=1)) (fun n _=>rfl),Bq]
     congr 3
     refine (ZlV ?_).symm
     rw [Bool.not_eq_true',List.any_eq_false]
     simp only [Bool.not_eq_true',Bool.not_eq_false,decide_eq_true_eq,decide_eq_false_iff_not,Classical.not_not]
     exact Iff.rfl)
   refine (show Zv (fun v=>VF d v.1 v.2.1) ((0:Int),ZnR (Zb.ZI d).length ((Zb.Instances d).map XM),())=_ from (by simpa using this)).trans ?_
   by_cases hP:ZeY (Zb.ZG d) (fun _ p=>Zky d p)
   ·rw [YS hP];congr 2;exact YB ⟨fun q=>⟨hP,q⟩,fun q=>q.2⟩
   ·rw [YH hP,ZQ (fun q=>hP q.1)])
 rw [ZdB] at this
 refine Eq.trans ?_ this
 rw [List.take_zero,List.map_nil,Zq2]
 rfl
/-
  Plain laws: designs by the reference; places.
-/
theorem Zn9 (a:Zo) (d:Zb) (ha:sm Xh a) (hd:sm YG d):Zfw a d=some (tr (ZeY (Zb.Instances d) (fun _ x=>Zkj a d x)∧ZeY (Zb.ZG d) (fun _ p=>Zky d p))):=by
 obtain ⟨h1,h2,h3⟩:=Za4 hd
 have s1:=Zp h1
 have s2:=Zp h2
 have s3:=Zp h3
 have sa:=Zp (Zqk ha)
 have e1:Wq (((Zb.ZI d).length:Int)-1)=((Zb.ZI d).length:Int)-1:=Jr (by omega) (by omega)
 have e2:Wq (((Zo.Cells a).length:Int)-1)=((Zo.Cells a).length:Int)-1:=Jr (by omega) (by omega)
 unfold Zfw
 rw [Qs (YL h1) (fun _ x=>Zkj a d x) (bad:=false) (good:=tr (ZeY (Zb.ZG d) (fun _ p=>Zky d p)))
  (fun k x hx hk _=>by
   have hsx:=QV h1 hx
   simp only [ZcE,show (k:Int)<((Zb.Instances d).length:Int) from by omega,if_true,Zu,hx,Bq,Qf,e2]
   by_cases hc:0≤Ze.Cell x∧Ze.Cell x≤((Zo.Cells a).length:Int)-1
   ·obtain ⟨c,hc1,hc2⟩:=Zqy hc.1 (show Ze.Cell x<((Zo.Cells a).length:Int) by omega)
    rw [if_pos (Yb hc),hc1,Bq]
    by_cases hp:((Ze.ZI x).length:Int)=((Zm.Yw c).length:Int)
    ·rw [if_pos hp,Qs (YL (Zkk hsx).2) (fun _ n=>ZaX d n) (bad:=.inr false) (good:=.inl (Wq ((k:Int)+1),()))
      (fun j n hn hj _=>by
       simp only [ZcJ,show (j:Int)<((Ze.ZI x).length:Int) from by omega,if_true,Zu,hn,Bq,Qf,e1]
       constructor
       ·intro hh;exact if_pos (Yb hh)
       ·intro hh;exact if_neg (fun q=>hh ((Y9 _).1 q)))
      (fun _=>by simp only [ZcJ,Int.lt_irrefl,if_false])]
     constructor
     ·intro hh;rw [YS (V9.2 hh.2.2)]
     ·intro hh;rw [YH (fun q=>hh ⟨hc,⟨c,hc2,by omega⟩,V9.1 q⟩)]
    ·rw [if_neg hp]
     refine ⟨fun hh=>?_,fun _=>rfl⟩
     obtain ⟨_,⟨c',q1,q2⟩,_⟩:=hh
     rw [hc2] at q1;injection q1 with q1;subst q1
     exact absurd (by omega) hp
   ·rw [if_neg (by rw [ZQ hc];simp)]
    exact ⟨fun hh=>absurd hh.1 hc,fun _=>rfl⟩)
  (fun _=>by
   simp only [ZcE,Int.lt_irrefl,if_false]
   rw [Qs (YL h2) (fun _ p=>Zky d p) (bad:=.inr false) (good:=.inr true)
    (fun k p hx hk _=>by
     simp only [ZcR,show (k:Int)<((Zb.ZG d).length:Int) from by omega,if_true,Zu,hx,Bq,Qf,e1]
     by_cases hc:1≤ZR.Dir p∧ZR.Dir p≤2
     ·rw [if_pos (Yb hc)]
      constructor
      ·intro hh;exact if_pos (Yb hh.2)
      ·intro hh;exact if_neg (fun q=>hh ⟨hc,(Y9 _).1 q⟩)
     ·rw [if_neg (by rw [ZQ hc];simp)]
      exact ⟨fun hh=>absurd hh.1 hc,fun _=>rfl⟩)
    (fun _=>by simp only [ZcR,Int.lt_irrefl,if_false])]
   congr 1
   by_cases hh:ZeY (Zb.ZG d) (fun _ p=>Zky d p)
   ·rw [YS hh,Yb hh]
   ·rw [YH hh,ZQ hh])]
 rw [ZdB]
theorem ZuR {α:Type} {l:List α} {f:α→List UInt8} (h:∀ x∈l,(f x).length≤4611686018427387904):∀ s∈l.map f,s.length≤4611686018427387904:=by
 intro s hs
 obtain ⟨x,hx,rfl⟩:=List.mem_map.1 hs
 exact h x hx
theorem ZnX (a:Zo) (d:Zb) (ha:sm Xh a) (hd:sm YG d):Zfe a d=some (tr (Qh a d)):=by
 obtain ⟨h1,h2,h3⟩:=Za4 hd
 have s1:=Zp h1
 have s2:=Zp h2
 have s3:=Zp h3
 unfold Zfe
 refine Vb (YA (Znl a ha) (fun hL=>Zf6 (fun a1=>Zf6 (fun a2=>Zf6 (fun a3=>YA (Zn9 a d ha hd) (fun hP=>?_))))))
  (P:=Ztv a∧¬(14:Int)<((Zb.Instances d).length:Int)∧¬(30:Int)<((Zb.ZI d).length:Int)∧¬(8:Int)<((Zb.ZG d).length:Int)∧(ZeY (Zb.Instances d) (fun _ x=>Zkj a d x)∧ZeY (Zb.ZG d) (fun _ p=>Zky d p))∧(X7 (Zaa d) (Zaa d).length∧X7 (Zb1 d) (Zb1 d).length∧X7 (Zb.ZI d) (Zb.ZI d).length)∧Zhr d) ?_
 ·have hi:(Zaa d).length=(Zb.Instances d).length:=by simp [Zaa]
  have hp:(Zb1 d).length=(Zb.ZG d).length:=by simp [Zb1]
  refine gather (l:=Zb.Instances d) s1 Ze.Name (fun k x o hx hk ho=>?_) ?_
  ·simp only [ZcG,hk,if_true,Zu,hx,Bq]
  simp only [ZcG,Int.lt_irrefl,if_false]
  refine gather (l:=Zb.ZG d) s2 ZR.Name (fun k x o hx hk ho=>?_) ?_
  ·simp only [Zcz,hk,if_true,Zu,hx,Bq]
  simp only [Zcz,Int.lt_irrefl,if_false]
  rw [show List.map ZR.Name (Zb.ZG d)=Zb1 d from rfl,show List.map Ze.Name (Zb.Instances d)=Zaa d from rfl]
  simp only [ZeZ (Zaa d) (by omega) (ZuR (fun x hx=>ZfS (Zkk (ZqL h1 hx)).1)),ZeZ (Zb1 d) (by omega) (ZuR (fun x hx=>ZfS (Zzq (ZqL h2 hx)))),ZeZ (Zb.ZI d) (by omega) (fun s hs=>ZfS (ZqL h3 hs)),Bq]
  by_cases n1:X7 (Zaa d) (Zaa d).length
  ·rw [if_pos (Yb n1)]
   by_cases n2:X7 (Zb1 d) (Zb1 d).length
   ·rw [if_pos (Yb n2)]
    by_cases n3:X7 (Zb.ZI d) (Zb.ZI d).length
    ·rw [if_pos (Yb n3),Zi (by omega),Zi (by omega),Zi (by omega),Zi (by omega)]
     have:=Yk (l:=Zb.Instances d) (ρ:=(List (List UInt8))×Int×Unit ⊕ ((List (List UInt8))×Int×Unit ⊕ Bool)) (fun k=>((k:Int),ZnR (Zb.ZI d).length (((Zb.Instances d).take k).map XM),())) (step:=fun v=>Vz d v.1 v.2.1) (good:=.inr (.inr (tr (Zhr d))))
      (fun k x hx hk=>by
       have hsx:=QV h1 hx
       obtain ⟨e1,e2⟩:=(hP.1 k x hx).last hL (Zp (Zkk hsx).2)
       simp only [Vz,show (k:Int)<((Zb.Instances d).length:Int) from by omega,if_true,Zu,hx,Bq]
       rw [e1,Bq,ZiS e2.1 (by have:=e2.2;omega) (by simp only [List.length_map,List.length_take];omega) (F:=fun o=>some (Sum.inl (Wq ((k:Int)+1),o,()))),Z8 hx,List.map_append,Xx (by omega)]
       rfl)
      (by
       simp only [Vz,Int.lt_irrefl,if_false,List.take_length]
       have:=Yk (l:=Zb.ZG d) (ρ:=Int×List Int×Unit ⊕ ((List (List UInt8))×Int×Unit ⊕ ((List (List UInt8))×Int×Unit ⊕ Bool))) (fun k=>((k:Int),ZnR (Zb.ZI d).length ((Zb.Instances d).map XM++(((Zb.ZG d).take k).filter (fun p=>decide (ZR.Dir p=1))).map ZR.Net),())) (step:=fun v=>VI d v.1 v.2.1) (good:=.inr (.inr (.inr (tr (Zhr d)))))
        (fun k p hx hk=>by
         have hl:=Zwf (d:=d) k (Zb.Instances d).length
         rw [List.take_length] at hl
         have hpo:=hP.2 k p hx
         simp only [VI,show (k:Int)<((Zb.ZG d).length:Int) from by omega,if_true,Zu,hx,Bq,ZuF hx]
         by_cases d1:ZR.Dir p=1
         ·simp only [d1,if_true]
          rw [ZiS hpo.2.1 (by have:=hpo.2.2;omega) (by omega) (F:=fun o=>some (Sum.inl (Wq ((k:Int)+1),o,()))),Xx (by omega)]
         ·simp only [d1,if_false]
          rw [Xx (by omega)])
        (by
         simp only [VI,Int.lt_irrefl,if_false,List.take_length]
         rw [Qs (l:=ZnR (Zb.ZI d).length ((Zb.Instances d).map XM++((Zb.ZG d).filter (fun p=>decide (ZR.Dir p=1))).map ZR.Net)) (show List.length _≤_ by rw [ZhM];omega) (fun _ x=>x=1) (bad:=.inr (.inr (.inr (.inr false)))) (good:=.inr (.inr (.inr (.inr true))))
          (fun k x hx hk _=>by
           simp only [ZcN,show (k:Int)<((ZnR (Zb.ZI d).length ((Zb.Instances d).map XM++((Zb.ZG d).filter (fun p=>decide (ZR.Dir p=1))).map ZR.Net)).length:Int) from by omega,if_true,Zu,hx,Bq]
           constructor
           ·intro hh;rw [if_pos hh]
           ·intro hh;rw [if_neg hh])
          (fun _=>by simp only [ZcN,Int.lt_irrefl,if_false])]
         congr 1
         have e:ZeY (ZnR (Zb.ZI d).length ((Zb.Instances d).map XM++((Zb.ZG d).filter (fun p=>decide (ZR.Dir p=1))).map ZR.Net)) (fun _ x=>x=1)↔Zhr d:=by
          rw [V9];exact Iff.rfl
         by_cases hh:Zhr d
         ·rw [YS (e.2 hh),Yb hh]
         ·rw [YH (fun q=>hh (e.1 q)),ZQ hh])
       refine (show Zv (fun v=>VI d v.1 v.2.1) ((0:Int),ZnR (Zb.ZI d).length ((Zb.Instances d).map XM),())=_ from (by simpa using this)).trans ?_
       rfl)
     rw [List.take_zero,List.map_nil,Zq2] at this
     refine (show Zv (fun v=>Vz d v.1 v.2.1) ((0:Int),List.replicate (Zb.ZI d).length 0,())=_ from this).trans ?_
     congr 3
     exact YB ⟨fun q=>⟨⟨n1,n2,n3⟩,q⟩,fun q=>q.2⟩
    ·rw [if_neg (by rw [ZQ n3];simp),ZQ (fun q=>n3 q.1.2.2)]
   ·rw [if_neg (by rw [ZQ n2];simp),ZQ (fun q=>n2 q.1.2.1)]
  ·rw [if_neg (by rw [ZQ n1];simp),ZQ (fun q=>n1 q.1.1)]
 ·unfold Qh Zmb
  rw [V9,V9]
  constructor
  ·rintro ⟨q1,q2,q3,q4,⟨q5,q6⟩,⟨q7,q8,q9⟩,q10⟩
   exact ⟨q1,⟨by omega,by omega,by omega,q7,q9,q8⟩,q5,q6,q10⟩
  ·rintro ⟨q1,⟨q2,q3,q4,q7,q9,q8⟩,q5,q6,q10⟩
   exact ⟨q1,by omega,by omega,by omega,⟨q5,q6⟩,⟨q7,q8,q9⟩,q10⟩
/-
  Plain laws: places, sinks, wires.
-/
def cat {α β:Type} (f:Nat→α→List β):Nat→List α→List β
 | _,[]=>[]
 | k,x::r=>f k x++cat f (k+1) r
theorem Zd0 {α β:Type} (f:Nat→α→List β):∀ (l r:List α) (m:Nat),cat f m (l++r)=cat f m l++cat f (m+l.length) r
 | [],r,m=>by simp [cat]
 | x::l,r,m=>by
  simp only [List.cons_append,cat,List.length_cons,Zd0 f l r,List.append_assoc]
  rw [show m+1+l.length=m+(l.length+1) by omega]
theorem ZgU {α β:Type} {f:Nat→α→List β} {l:List α} {k:Nat} {x:α} (hx:l[k]?=some x):cat f 0 (l.take (k+1))=cat f 0 (l.take k)++f k x:=by
 have hk:=(List.getElem?_eq_some_iff.1 hx).1
 rw [Z8 hx,Zd0]
 simp only [cat,Nat.zero_add,List.length_take,List.append_nil]
 rw [show min k l.length=k by omega]
theorem Zb3 {α β:Type} {f:Nat→α→List β} {y:β}:∀ {l:List α} {m:Nat},y∈cat f m l↔∃ (k:Nat) (x:α),l[k]?=some x∧y∈f (m+k) x
 | [],m=>by simp [cat]
 | z::r,m=>by
  simp only [cat,List.mem_append,Zb3 (l:=r)]
  constructor
  ·rintro (h | ⟨k,x,h1,h2⟩)
   ·exact ⟨0,z,rfl,h⟩
   ·exact ⟨k+1,x,by simpa using h1,by rw [show m+(k+1)=m+1+k by omega];exact h2⟩
  ·rintro ⟨k,x,h1,h2⟩
   cases k with
   | zero=>simp at h1;subst h1;exact .inl h2
   | succ k=>exact .inr ⟨k,x,by simpa using h1,by rw [show m+1+k=m+(k+1) by omega];exact h2⟩
theorem Zlv {α β:Type} {f:Nat→α→List β} {c:Nat}:∀ {l:List α} {m:Nat},(∀ k,∀ x∈l,(f k x).length≤c)→(cat f m l).length≤c*l.length
 | [],m,_=>by simp [cat]
 | z::r,m,h=>by
  simp only [cat,List.length_append,List.length_cons]
  have h1:=h m z (by simp)
  have h2:=Zlv (f:=f) (l:=r) (m:=m+1) (fun k x hx=>h k x (by simp [hx]))
  rw [Nat.mul_add];omega
theorem ZaL {α β ρ:Type} {l:List α} (f:Nat→α→List β) (acc:List β) {step:List β×Int×Unit→Option ((List β×Int×Unit) ⊕ ρ)} {good:ρ}
  (hs:∀ (k:Nat) (x:α),l[k]?=some x→k<l.length→step (acc++cat f 0 (l.take k),(k:Int),())=some (.inl ((acc++cat f 0 (l.take k))++f k x,((k+1:Nat):Int),())))
  (hx:step (acc++cat f 0 l,(l.length:Int),())=some (.inr good)):Zv step (acc,(0:Int),())=some good:=by
 have:=Yk (l:=l) (ρ:=ρ) (fun k=>(acc++cat f 0 (l.take k),(k:Int),())) (step:=step) (good:=good) (fun k x hx hk=>by
  rw [hs k x hx hk,ZgU hx,List.append_assoc]) (by simp only [List.take_length];exact hx)
 simpa [cat] using this
abbrev Pl:=Int×Int×Int×Bool×Unit
def Y8 (i:Nat) (x:Ze):List Pl:=cat (fun j n=>[((i:Int),(j:Int),n,decide ((j:Int)=Wq (((Ze.ZI x).length:Int)-1)),())]) 0 (Ze.ZI x)
def ZbU (j:Nat) (p:ZR):List Pl:=[((-1:Int),(j:Int),ZR.Net p,decide (ZR.Dir p=1),())]
def places (d:Zb):List Pl:=cat Y8 0 (Zb.Instances d)++cat ZbU 0 (Zb.ZG d)
theorem ZvG (i:Nat) (x:Ze):(Y8 i x).length≤(Ze.ZI x).length:=by
 have:=Zlv (f:=fun j n=>[((i:Int),(j:Int),n,decide ((j:Int)=Wq (((Ze.ZI x).length:Int)-1)),())]) (c:=1) (l:=Ze.ZI x) (m:=0) (fun _ _ _=>by simp)
 simpa [Y8] using this
structure Few (d:Zb):Prop where
 insts:(Zb.Instances d).length≤14
 ports:(Zb.ZG d).length≤8
 nets:∀ x∈Zb.Instances d,(Ze.ZI x).length≤5
theorem Qh.few {a:Zo} {d:Zb} (h:Qh a d):Few d:=by
 refine ⟨h.2.1.1,h.2.1.2.2.1,fun x hx=>?_⟩
 obtain ⟨_,⟨c,hc,hn⟩,_⟩:=h.2.2.1 x hx
 have:=(h.1.2.1 c (List.mem_of_getElem? hc)).2.1.2.1
 omega
theorem ZeN {d:Zb} (h:Few d) (k:Nat):(cat Y8 0 ((Zb.Instances d).take k)).length≤70:=by
 have:=Zlv (f:=Y8) (c:=5) (l:=(Zb.Instances d).take k) (m:=0) (fun i x hx=>by
  have h1:=ZvG i x
  have h2:=h.nets x (List.mem_of_mem_take hx)
  omega)
 have h1:=h.insts
 rw [List.length_take] at this
 omega
theorem Zjh {d:Zb} (h:Few d) (k:Nat):(cat ZbU 0 ((Zb.ZG d).take k)).length≤8:=by
 have:=Zlv (f:=ZbU) (c:=1) (l:=(Zb.ZG d).take k) (m:=0) (fun i x hx=>by simp [ZbU])
 have h1:=h.ports
 rw [List.length_take] at this
 omega
theorem YW {d:Zb} (h:Few d):(places d).length≤78:=by
 have h1:=ZeN h (Zb.Instances d).length
 have h2:=Zjh h (Zb.ZG d).length
 rw [List.take_length] at h1 h2
 unfold places
 rw [List.length_append];omega
theorem Z4 (d:Zb) (h:Few d):Yh d=some (places d):=by
 have h1:=h.insts
 have h2:=h.ports
 unfold Yh
 refine ZaL (l:=Zb.Instances d) Y8 [] (fun k x hx hk=>?_) ?_
 ·have hn:=h.nets x (List.mem_of_getElem? hx)
  have hl:=ZeN h k
  simp only [List.nil_append,JX,show (k:Int)<((Zb.Instances d).length:Int) from by omega,if_true,Zu,hx,Bq]
  refine ZaL (l:=Ze.ZI x) (fun j n=>[((k:Int),(j:Int),n,decide ((j:Int)=Wq (((Ze.ZI x).length:Int)-1)),())]) _ (fun j n hj hk'=>?_) ?_
  ·have hl2:=Zlv (f:=fun j n=>[((k:Int),(j:Int),n,decide ((j:Int)=Wq (((Ze.ZI x).length:Int)-1)),())]) (c:=1) (l:=(Ze.ZI x).take j) (m:=0) (fun _ _ _=>by simp)
   rw [List.length_take] at hl2
   simp only [J2,show (j:Int)<((Ze.ZI x).length:Int) from by omega,if_true,Zu,hj,Bq]
   rw [Zi (by rw [List.length_append,List.length_singleton];omega),Xx (by omega)]
  ·simp only [J2,Int.lt_irrefl,if_false]
   rw [Xx (by omega)];rfl
 ·have hl:=ZeN h (Zb.Instances d).length
  rw [List.take_length] at hl
  simp only [List.nil_append,JX,Int.lt_irrefl,if_false]
  refine ZaL (l:=Zb.ZG d) ZbU _ (fun j p hj hk'=>?_) ?_
  ·have hl2:=Zjh h j
   simp only [JV,show (j:Int)<((Zb.ZG d).length:Int) from by omega,if_true,Zu,hj,Bq]
   rw [Zi (by rw [List.length_append,List.length_singleton];omega),Xx (by omega)];rfl
  ·simp only [JV,Int.lt_irrefl,if_false];rfl
theorem YT (d:Zb) (h:Few d):Y0 d=some (places d):=by
 have h1:=h.insts
 have h2:=h.ports
 unfold Y0
 refine ZaL (l:=Zb.Instances d) Y8 [] (fun k x hx hk=>?_) ?_
 ·have hn:=h.nets x (List.mem_of_getElem? hx)
  have hl:=ZeN h k
  simp only [List.nil_append,Zb7,show (k:Int)<((Zb.Instances d).length:Int) from by omega,if_true,Zu,hx,Bq]
  refine ZaL (l:=Ze.ZI x) (fun j n=>[((k:Int),(j:Int),n,decide ((j:Int)=Wq (((Ze.ZI x).length:Int)-1)),())]) _ (fun j n hj hk'=>?_) ?_
  ·have hl2:=Zlv (f:=fun j n=>[((k:Int),(j:Int),n,decide ((j:Int)=Wq (((Ze.ZI x).length:Int)-1)),())]) (c:=1) (l:=(Ze.ZI x).take j) (m:=0) (fun _ _ _=>by simp)
   rw [List.length_take] at hl2
   simp only [Zb2,show (j:Int)<((Ze.ZI x).length:Int) from by omega,if_true,Zu,hj,Bq]
   rw [Zi (by rw [List.length_append,List.length_singleton];omega),Xx (by omega)]
  ·simp only [Zb2,Int.lt_irrefl,if_false]
   rw [Xx (by omega)];rfl
 ·have hl:=ZeN h (Zb.Instances d).length
  rw [List.take_length] at hl
  simp only [List.nil_append,Zb7,Int.lt_irrefl,if_false]
  refine ZaL (l:=Zb.ZG d) ZbU _ (fun j p hj hk'=>?_) ?_
  ·have hl2:=Zjh h j
   simp only [ZbW,show (j:Int)<((Zb.ZG d).length:Int) from by omega,if_true,Zu,hj,Bq]
   rw [Zi (by rw [List.length_append,List.length_singleton];omega),Xx (by omega)];rfl
  ·simp only [ZbW,Int.lt_irrefl,if_false];rfl
def J9 (net:Int) (i:Nat) (x:Pl):List Int:=if x.2.2.1=net then (if x.2.2.2.1=true then [] else [(i:Int)]) else []
def sinks (d:Zb) (net:Int):List Int:=cat (J9 net) 0 (places d)
theorem ZeP (net:Int) (l:List Pl) (m:Nat):(cat (J9 net) m l).length≤l.length:=by
 have:=Zlv (f:=J9 net) (c:=1) (l:=l) (m:=m) (fun i x _=>by
  unfold J9;split
  ·split<;>simp
  ·simp)
 omega
theorem Ze2 (d:Zb) (net:Int) (h:Few d):JY d net=some (sinks d net):=by
 have hp:=YW h
 unfold JY
 rw [Z4 d h,Bq]
 refine ZaL (l:=places d) (J9 net) [] (fun k x hx hk=>?_) ?_
 ·have hl:=ZeP net ((places d).take k) 0
  rw [List.length_take] at hl
  simp only [List.nil_append,Zai,show (k:Int)<((places d).length:Int) from by omega,if_true,Zu,hx,Bq,J9,Xx (show k≤1048576 by omega)]
  split
  ·split
   ·rw [List.append_nil]
   ·rw [Zi (by
     show (List.length _+1)*8≤_
     have:(cat (J9 net) 0 ((places d).take k)).length≤78:=by omega
     omega)]
  ·rw [List.append_nil]
 ·simp only [List.nil_append,Zai,Int.lt_irrefl,if_false];rfl
theorem Q5 (d:Zb) (net:Int) (h:Few d):Qc d net=some (sinks d net):=by
 have hp:=YW h
 unfold Qc
 rw [YT d h,Bq]
 refine ZaL (l:=places d) (J9 net) [] (fun k x hx hk=>?_) ?_
 ·have hl:=ZeP net ((places d).take k) 0
  rw [List.length_take] at hl
  simp only [List.nil_append,ZcO,show (k:Int)<((places d).length:Int) from by omega,if_true,Zu,hx,Bq,J9,Xx (show k≤1048576 by omega)]
  split
  ·split
   ·rw [List.append_nil]
   ·rw [Zi (by
     show (List.length _+1)*8≤_
     have:(cat (J9 net) 0 ((places d).take k)).length≤78:=by omega
     omega)]
  ·rw [List.append_nil]
 ·simp only [List.nil_append,ZcO,Int.lt_irrefl,if_false];rfl
theorem ZoE (net:Int):∀ (l:List Pl) (m:Nat),(cat (J9 net) m l).length=((l.filter (fun x=>!x.2.2.2.1)).map (fun x=>x.2.2.1)).countP (fun y=>decide (y=net))
 | [],m=>by simp [cat]
 | x::r,m=>by
  simp only [cat,List.length_append,ZoE net r,J9]
  obtain ⟨a,b,n,dr,u⟩:=x
  cases dr
  ·by_cases e:n=net
   ·simp [e,Nat.add_comm]
   ·simp [e]
  ·simp
/-
  Plain laws: wires, blocks.
-/
theorem ZlW {w:Zr} (h:sm Vv w):sm (.sl (.int .i64)) (Zr.Parent w)∧sm (.sl (.int .i64)) (Zr.Res w)∧sm (.sl (.int .i64)) (Zr.Cap w)∧sm (.sl (.int .i64)) (Zr.Ze6 w):=by
 refine ⟨?_,?_,?_,?_⟩
 all_goals first | exact h.1 | exact h.2.1 | exact h.2.2.1 | exact h.2.2.2.1
theorem JW {b:Za} (h:sm Y3 b):sm Xh (Za.Library b)∧sm YG (Za.Design b)∧sm (.sl Vv) (Za.Zz b):=by
 refine ⟨?_,?_,?_⟩
 all_goals first | exact h.1 | exact h.2.1 | exact h.2.2.1 | exact h.2.2.2.1
def Zph (w:Zr) (k:Nat) (x:Int):Prop:=(k=0→x=-1∧(Zr.Res w)[0]?=some 0)∧(0<k→0≤x∧x≤(k:Int)-1)
def Zbr (w:Zr) (s:Int):Prop :=
 (1≤(Zr.Parent w).length∧(Zr.Parent w).length≤8)∧(Zr.Res w).length=(Zr.Parent w).length∧(Zr.Cap w).length=(Zr.Parent w).length∧((Zr.Ze6 w).length:Int)=s∧
 ZeY (Zr.Parent w) (Zph w)∧ZiJ (Zr.Res w) 0 1000∧ZiJ (Zr.Cap w) 0 500∧ZiJ (Zr.Ze6 w) 0 (((Zr.Parent w).length:Int)-1)
theorem Zg2 (l:List Int) (lo hi:Int) (hl:l.length≤1048576):XO l lo hi=some (tr (ZiJ l lo hi)):=by
 rw [ZbS l lo hi (by omega)]
 exact Jw (ZlQ _ _ _)
theorem Zln (w:Zr) (hw:sm Vv w) (h1:1≤(Zr.Parent w).length) (h2:(Zr.Res w).length=(Zr.Parent w).length):Zcm w=some (tr (ZeY (Zr.Parent w) (Zph w))):=by
 obtain ⟨a1,a2,a3,a4⟩:=ZlW hw
 have s1:=Zp a1
 unfold Zcm
 have hr:(Zr.Res w)[0]?=some (Zr.Res w)[0]:=List.getElem?_eq_getElem (by omega)
 rw [Qs (YL a1) (Zph w) (bad:=false) (good:=true)
  (fun k x hx hk _=>by
   simp only [ZaV,show (k:Int)<((Zr.Parent w).length:Int) from by omega,if_true,Zu,hx,Bq]
   unfold Zph
   by_cases hk0:k=0
   ·subst hk0
    rw [if_pos (by rfl),show atI (Zr.Res w) 0=some (Zr.Res w)[0] from hr,hr]
    simp only [Bq,Option.some.injEq]
    rw [if_neg (show ¬(0:Int)<((0:Nat):Int) by omega)]
    constructor
    ·intro hh
     obtain ⟨q1,q2⟩:=hh.1 trivial
     rw [if_pos q1,if_pos q2]
    ·intro hh
     by_cases q1:x=-1
     ·rw [if_pos q1,if_neg (fun q2=>hh ⟨fun _=>⟨q1,q2⟩,fun h=>by omega⟩)]
     ·rw [if_neg q1]
   ·rw [if_neg (by omega),if_pos (by omega),Xv,Bq,Jr (by omega) (by omega)]
    constructor
    ·intro hh;rw [if_pos (Yb (hh.2 (by omega)))]
    ·intro hh;rw [if_neg (fun q=>hh ⟨fun h=>absurd h hk0,fun _=>(Y9 _).1 q⟩)])
  (fun _=>by simp only [ZaV,Int.lt_irrefl,if_false]),Zl5]
theorem Zkb (w:Zr) (s:Int) (hw:sm Vv w):ZfM w s=some (tr (Zbr w s)):=by
 obtain ⟨a1,a2,a3,a4⟩:=ZlW hw
 have s1:=Zp a1
 have s2:=Zp a2
 have s3:=Zp a3
 have s4:=Zp a4
 unfold ZfM
 simp only [Q6,Bq,Jr (show (-9223372036854775808:Int)≤((Zr.Parent w).length:Int)-1 by omega) (by omega)]
 refine Vb (YA (Xv _ _ _) (fun q1=>Yv (fun q2=>Yv (fun q3=>YA (Zln w hw (by omega) (by omega)) (fun q4=>YA (Zg2 _ _ _ s2) (fun q5=>YA (Zg2 _ _ _ s3) (fun q6=>Yv (fun q7=>Jt (Zg2 _ _ _ s4))))))))) ?_
 unfold Zbr
 constructor
 ·rintro ⟨q1,q2,q3,q4,q5,q6,q7,q8⟩
  exact ⟨⟨by omega,by omega⟩,by omega,by omega,q7,q4,q5,q6,q8⟩
 ·rintro ⟨q1,q2,q3,q7,q4,q5,q6,q8⟩
  exact ⟨by omega,by omega,by omega,q4,q5,q6,q7,q8⟩
theorem ZuE {l:List Int} {lo hi:Int}:ZiJ l lo hi↔∀ (k:Nat) (x:Int),l[k]?=some x→lo≤x∧x≤hi:=by
 unfold ZiJ
 constructor
 ·intro h k x hx;exact h x (List.mem_of_getElem? hx)
 ·intro h x hx
  obtain ⟨k,hk⟩:=List.mem_iff_getElem?.1 hx
  exact h k x hk
theorem Zkr (w:Zr) (s:Int) (hw:sm Vv w):Zf3 w s=some (tr (Zbr w s)):=by
 obtain ⟨a1,a2,a3,a4⟩:=ZlW hw
 have s1:=Zp a1
 have s2:=Zp a2
 have s3:=Zp a3
 have s4:=Zp a4
 have e1:Wq (((Zr.Parent w).length:Int)-1)=((Zr.Parent w).length:Int)-1:=Jr (by omega) (by omega)
 unfold Zf3
 refine Vb (Zf6 (fun q1=>Zf6 (fun q2=>Yv (fun q3=>Yv (fun q4=>Yv (fun q5=>?_)))))) ?_
  (P:=¬((Zr.Parent w).length:Int)<1∧¬(8:Int)<((Zr.Parent w).length:Int)∧((Zr.Res w).length:Int)=((Zr.Parent w).length:Int)∧((Zr.Cap w).length:Int)=((Zr.Parent w).length:Int)∧((Zr.Ze6 w).length:Int)=s∧
   (ZeY (Zr.Parent w) (fun k x=>(∀ c,(Zr.Cap w)[k]?=some c→0≤c∧c≤500)∧(∀ r,(Zr.Res w)[k]?=some r→0≤r∧r≤1000)∧Zph w k x)∧ZiJ (Zr.Ze6 w) 0 (((Zr.Parent w).length:Int)-1)))
 ·rw [Qs (YL a1) (fun k x=>(∀ c,(Zr.Cap w)[k]?=some c→0≤c∧c≤500)∧(∀ r,(Zr.Res w)[k]?=some r→0≤r∧r≤1000)∧Zph w k x) (bad:=false) (good:=tr (ZiJ (Zr.Ze6 w) 0 (((Zr.Parent w).length:Int)-1)))
   (fun k x hx hk _=>by
    have hc:(Zr.Cap w)[k]?=some (Zr.Cap w)[k]:=List.getElem?_eq_getElem (by omega)
    have hr:(Zr.Res w)[k]?=some (Zr.Res w)[k]:=List.getElem?_eq_getElem (by omega)
    simp only [ZdY,show (k:Int)<((Zr.Parent w).length:Int) from by omega,if_true,Zu,hc,hr,hx,Bq,Qf,Option.some.injEq,forall_eq']
    generalize (Zr.Cap w)[k]=c at hc
    generalize (Zr.Res w)[k]=r at hr
    by_cases qc:0≤c∧c≤500
    ·rw [if_pos (Yb qc)]
     by_cases qr:0≤r∧r≤1000
     ·rw [if_pos (Yb qr)]
      unfold Zph
      by_cases hk0:k=0
      ·subst hk0
       rw [if_pos (by rfl),hr]
       simp only [Option.some.injEq]
       rw [if_neg (show ¬(0:Int)<((0:Nat):Int) by omega)]
       constructor
       ·rintro ⟨_,_,hh⟩
        obtain ⟨q1,q2⟩:=hh.1 trivial
        rw [if_pos q1,if_pos q2]
       ·intro hh
        by_cases q1:x=-1
        ·rw [if_pos q1,if_neg (fun q2=>hh ⟨qc,qr,fun _=>⟨q1,q2⟩,fun h=>by omega⟩)]
        ·rw [if_neg q1]
      ·rw [if_neg (by omega),if_pos (by omega),Jr (show (-9223372036854775808:Int)≤(k:Int)-1 by omega) (by omega)]
       constructor
       ·intro hh;rw [if_pos (Yb (hh.2.2.2 (by omega)))]
       ·intro hh;rw [if_neg (fun q=>hh ⟨qc,qr,fun h=>absurd h hk0,fun _=>(Y9 _).1 q⟩)]
     ·rw [if_neg (fun q=>qr ((Y9 _).1 q))]
      exact ⟨fun hh=>absurd hh.2.1 qr,fun _=>rfl⟩
    ·rw [if_neg (fun q=>qc ((Y9 _).1 q))]
     exact ⟨fun hh=>absurd hh.1 qc,fun _=>rfl⟩)
   (fun _=>by
    simp only [ZdY,Int.lt_irrefl,if_false]
    rw [Qs (YL a4) (fun _ x=>0≤x∧x≤((Zr.Parent w).length:Int)-1) (bad:=.inr false) (good:=.inr true)
     (fun k x hx hk _=>by
      simp only [Zd9,show (k:Int)<((Zr.Ze6 w).length:Int) from by omega,if_true,Zu,hx,Bq,Qf,e1]
      constructor
      ·intro hh;rw [if_pos (Yb hh)]
      ·intro hh;rw [if_neg (fun q=>hh ((Y9 _).1 q))])
     (fun _=>by simp only [Zd9,Int.lt_irrefl,if_false])]
    congr 1
    have e:ZeY (Zr.Ze6 w) (fun _ x=>0≤x∧x≤((Zr.Parent w).length:Int)-1)↔ZiJ (Zr.Ze6 w) 0 (((Zr.Parent w).length:Int)-1):=V9
    by_cases hh:ZiJ (Zr.Ze6 w) 0 (((Zr.Parent w).length:Int)-1)
    ·rw [YS (e.2 hh),Yb hh]
    ·rw [YH (fun q=>hh (e.1 q)),ZQ hh]),ZdB]
 ·unfold Zbr
  rw [ZuE (l:=Zr.Res w),ZuE (l:=Zr.Cap w)]
  constructor
  ·rintro ⟨q1,q2,q3,q4,q5,q6,q7⟩
   refine ⟨⟨by omega,by omega⟩,by omega,by omega,q5,fun k x hx=>(q6 k x hx).2.2,fun k r hr=>?_,fun k c hc=>?_,q7⟩
   ·have hk:=(List.getElem?_eq_some_iff.1 hr).1
    exact (q6 k _ (List.getElem?_eq_getElem (by omega))).2.1 r hr
   ·have hk:=(List.getElem?_eq_some_iff.1 hc).1
    exact (q6 k _ (List.getElem?_eq_getElem (by omega))).1 c hc
  ·rintro ⟨q1,q2,q3,q5,q6,q7,q8,q9⟩
   exact ⟨by omega,by omega,by omega,by omega,q5,fun k x hx=>⟨fun c hc=>q8 k c hc,fun r hr=>q7 k r hr,q6 k x hx⟩,q9⟩
def ZmZ (b:Za):Prop :=
 Qh (Za.Library b) (Za.Design b)∧(Za.Zz b).length=(Zb.ZI (Za.Design b)).length∧ZeY (Za.Zz b) (fun k w=>Zbr w ((sinks (Za.Design b) (k:Int)).length:Int))
theorem Je {a:Zo} {d:Zb} (h:Qh a d) {x:Pl} (hx:x∈places d):ZaX d x.2.2.1:=by
 unfold places at hx
 rcases List.mem_append.1 hx with hx | hx
 ·obtain ⟨i,z,hi,hz⟩:=Zb3.1 hx
  unfold Y8 at hz
  obtain ⟨j,n,hj,hn⟩:=Zb3.1 hz
  simp only [List.mem_singleton] at hn
  subst hn
  exact (h.2.2.1 z (List.mem_of_getElem? hi)).2.2 n (List.mem_of_getElem? hj)
 ·obtain ⟨j,p,hj,hp⟩:=Zb3.1 hx
  simp only [ZbU,List.mem_singleton] at hp
  subst hp
  exact (h.2.2.2.1 p (List.mem_of_getElem? hj)).2
theorem Zf2 (b:Za) (hb:sm Y3 b):ZcV b=some (tr (ZmZ b)):=by
 obtain ⟨a1,a2,a3⟩:=JW hb
 have s3:=Zp a3
 unfold ZcV
 refine Vb (YA (ZnX _ _ a1 a2) (fun hD=>Yv (fun q1=>?_))) ?_
  (P:=Qh (Za.Library b) (Za.Design b)∧((Za.Zz b).length:Int)=((Zb.ZI (Za.Design b)).length:Int)∧ZeY (Za.Zz b) (fun k w=>Zbr w ((sinks (Za.Design b) (k:Int)).length:Int)))
 ·rw [Qs (YL a3) (fun k w=>Zbr w ((sinks (Za.Design b) (k:Int)).length:Int)) (bad:=false) (good:=true)
   (fun k w hx hk _=>by
    simp only [ZdF,show (k:Int)<((Za.Zz b).length:Int) from by omega,if_true,Zu,hx,Bq,Q5 _ _ hD.few,Zkr w _ (QV a3 hx)]
    constructor
    ·intro hh;rw [if_pos (Yb hh)]
    ·intro hh;rw [if_neg (fun q=>hh ((Y9 _).1 q))])
   (fun _=>by simp only [ZdF,Int.lt_irrefl,if_false]),Zl5]
 ·unfold ZmZ
  rw [show ((Za.Zz b).length:Int)=((Zb.ZI (Za.Design b)).length:Int)↔(Za.Zz b).length=(Zb.ZI (Za.Design b)).length from by omega]
theorem Zvd {l:List Pl} {k:Nat} {x:Pl} (hx:l[k]?=some x) :
  (((l.take (k+1)).filter (fun x=>!x.2.2.2.1)).map (fun x=>x.2.2.1))=if x.2.2.2.1=true then (((l.take k).filter (fun x=>!x.2.2.2.1)).map (fun x=>x.2.2.1)) else (((l.take k).filter (fun x=>!x.2.2.2.1)).map (fun x=>x.2.2.1))++[x.2.2.1]:=by
 rw [Z8 hx,List.filter_append,List.map_append]
 by_cases h:x.2.2.2.1=true
 ·rw [if_pos h];simp [h]
 ·rw [if_neg h];simp [h]
theorem ZoV (b:Za) (hb:sm Y3 b):ZgE b=some (tr (ZmZ b)):=by
 obtain ⟨a1,a2,a3⟩:=JW hb
 have s3:=Zp a3
 unfold ZgE
 refine Vb (YA (ZnU _ _ a1 a2) (fun hD=>Yv (fun q1=>?_))) ?_
  (P:=Qh (Za.Library b) (Za.Design b)∧((Za.Zz b).length:Int)=((Zb.ZI (Za.Design b)).length:Int)∧ZeY (Za.Zz b) (fun k w=>Zbr w ((sinks (Za.Design b) (k:Int)).length:Int)))
 ·rw [Zi (by omega),Zi (by omega),Zi (by omega),Zi (by omega),Z4 _ hD.few,Bq]
  have hpl:=YW hD.few
  have:=Yk (l:=places (Za.Design b)) (ρ:=Bool) (fun k=>((k:Int),ZnR (Za.Zz b).length ((((places (Za.Design b)).take k).filter (fun x=>!x.2.2.2.1)).map (fun x=>x.2.2.1)),())) (step:=fun v=>Za5 b (places (Za.Design b)) v.1 v.2.1) (good:=tr (ZeY (Za.Zz b) (fun k w=>Zbr w ((sinks (Za.Design b) (k:Int)).length:Int))))
   (fun k x hx hk=>by
    have hn:=Je hD (List.mem_of_getElem? hx)
    have hl1:=List.length_filter_le (fun x:Pl=>!x.2.2.2.1) ((places (Za.Design b)).take k)
    rw [List.length_take] at hl1
    simp only [Za5,show (k:Int)<((places (Za.Design b)).length:Int) from by omega,if_true,Zu,hx,Bq,Zvd hx]
    by_cases hd:x.2.2.2.1=true
    ·rw [if_pos hd,if_pos hd,Xx (by omega)]
    ·rw [if_neg hd,if_neg hd,ZiS hn.1 (by have:=hn.2;show x.2.2.1<_;omega) (by rw [List.length_map];omega) (F:=fun o=>some (Sum.inl (Wq ((k:Int)+1),o,()))),Xx (by omega)])
   (by
    simp only [Za5,Int.lt_irrefl,if_false,List.take_length]
    rw [Qs (YL a3) (fun k w=>Zbr w ((sinks (Za.Design b) (k:Int)).length:Int)) (bad:=.inr false) (good:=.inr true)
     (fun k w hx hk _=>by
      have hc:(sinks (Za.Design b) (k:Int)).length=_:=ZoE (k:Int) (places (Za.Design b)) 0
      simp only [Zda,show (k:Int)<((Za.Zz b).length:Int) from by omega,if_true,Zu,hx,Bq]
      rw [Zjo hk,Bq,Zkb w _ (QV a3 hx),Bq,hc]
      constructor
      ·intro hh;rw [if_pos (Yb hh)]
      ·intro hh;rw [if_neg (fun q=>hh ((Y9 _).1 q))])
     (fun _=>by simp only [Zda,Int.lt_irrefl,if_false])]
    congr 1
    by_cases hh:ZeY (Za.Zz b) (fun k w=>Zbr w ((sinks (Za.Design b) (k:Int)).length:Int))
    ·rw [YS hh,Yb hh]
    ·rw [YH hh,ZQ hh])
  rw [List.take_zero,List.filter_nil,List.map_nil,Zq2] at this
  exact this
 ·unfold ZmZ
  rw [show ((Za.Zz b).length:Int)=((Zb.ZI (Za.Design b)).length:Int)↔(Za.Zz b).length=(Zb.ZI (Za.Design b)).length from by omega]
structure VJ (b:Za):Prop where
 ok:ZmZ b
 sm:sm Y3 b
/-
  Plain laws: the view is always made.
-/
theorem ZhI {α τ ρ:Type} {l:List α} (I:Nat→τ→Prop) (Q:ρ→Prop) {step:τ→Option (τ ⊕ ρ)} {v:τ} (h0:I 0 v)
  (hs:∀ (k:Nat) (x:α) (v:τ),l[k]?=some x→k<l.length→I k v→∃ v',step v=some (.inl v')∧I (k+1) v')
  (hx:∀ v,I l.length v→∃ r,step v=some (.inr r)∧Q r):∃ r,Zv step v=some r∧Q r :=
 Vn l.length I Q h0 (fun k v hk hI=>.inl (hs k l[k] v (List.getElem?_eq_getElem hk) hk hI)) hx
theorem Zsa {α:Type} {l:List α} {i:Int} (h0:0≤i) (h1:i<(l.length:Int)):∃ x,atI l i=some x∧x∈l:=by
 obtain ⟨x,h2,h3⟩:=Zqy h0 h1
 exact ⟨x,h2,List.mem_of_getElem? h3⟩
theorem Zwz {a:Zo} {d:Zb} (h:Qh a d) {x:Pl} (hx:x∈places d):∃ n,ZbN d a x=some n:=by
 unfold ZbN
 split
 ·exact ⟨_,rfl⟩
 ·rename_i hneg
  unfold places at hx
  rcases List.mem_append.1 hx with hx | hx
  ·obtain ⟨i,z,hi,hz⟩:=Zb3.1 hx
   unfold Y8 at hz
   obtain ⟨j,n,hj,hn⟩:=Zb3.1 hz
   simp only [List.mem_singleton] at hn
   subst hn
   rw [Nat.zero_add] at hneg
   obtain ⟨hc,⟨c,hc1,hc2⟩,_⟩:=h.2.2.1 z (List.mem_of_getElem? hi)
   have hj2:=(List.getElem?_eq_some_iff.1 hj).1
   simp only [ZL.instance,ZL.pin,Nat.zero_add,Zu,hi,Bq]
   rw [XI hc.1 hc1,Bq]
   have hp:(Zm.Yw c)[j]?=some (Zm.Yw c)[j]:=List.getElem?_eq_getElem (by omega)
   rw [hp,Bq]
   exact ⟨_,rfl⟩
  ·obtain ⟨j,p,hj,hp⟩:=Zb3.1 hx
   simp only [ZbU,List.mem_singleton] at hp
   subst hp
   exact absurd (by show (-1:Int)<0;omega) hneg
theorem Zwm {d:Zb} {net y:Int} (h:y∈sinks d net):0≤y∧y<((places d).length:Int):=by
 obtain ⟨k,x,hk,hy⟩:=Zb3.1 h
 have:=(List.getElem?_eq_some_iff.1 hk).1
 unfold J9 at hy
 split at hy
 ·split at hy
  ·cases hy
  ·simp only [List.mem_singleton] at hy;omega
 ·cases hy
theorem ZlY {b:Za} (h:VJ b) {k:Nat} {w:Zr} (hw:(Za.Zz b)[k]?=some w):∃ r,Vd b (k:Int)=some r∧r.length=(Zr.Parent w).length:=by
 have hW:=h.ok.2.2 k w hw
 have hD:=h.ok.1
 have hf:=hD.few
 obtain ⟨⟨l1,l8⟩,lr,lc,ls,ht,ar,ac,asn⟩:=hW
 have hpl:=YW hf
 have hsl:=ZeP (k:Int) (places (Za.Design b)) 0
 have hsl2:(sinks (Za.Design b) (k:Int)).length≤78:=by unfold sinks;omega
 unfold Vd
 rw [Zu,hw,Bq]
 unfold ZC
 rw [Zi (by simp;omega),Bq,Z4 _ hf,Bq,Ze2 _ _ hf,Bq]
 refine ZhI (l:=sinks (Za.Design b) (k:Int)) (fun m v=>v.1=(m:Int)∧v.2.1.length=(Zr.Parent w).length) _ ⟨rfl,by simp;omega⟩ ?_ ?_
 ·rintro m y ⟨i,l,⟨⟩⟩ hy hm ⟨hi,hl⟩
  simp only at hi hl
  subst hi
  have hz:(Zr.Ze6 w)[m]?=some (Zr.Ze6 w)[m]:=List.getElem?_eq_getElem (by omega)
  generalize (Zr.Ze6 w)[m]=z at hz
  have hz2:=asn z (List.mem_of_getElem? hz)
  obtain ⟨q,hq1,_⟩:=Zsa (l:=l) hz2.1 (by omega)
  obtain ⟨hy1,hy2⟩:=Zwm (List.mem_of_getElem? hy)
  obtain ⟨p,hp1,hp2⟩:=Zsa hy1 hy2
  obtain ⟨c,hc⟩:=Zwz hD hp2
  simp only [VY,show (m:Int)<((sinks (Za.Design b) (k:Int)).length:Int) from by omega,if_true,Zu,hy,hz,Bq,hq1,hp1,hc]
  exact ⟨_,rfl,by rw [Xx (by omega)],by simp [hl]⟩
 ·rintro ⟨i,l,⟨⟩⟩ ⟨hi,hl⟩
  simp only at hi hl
  subst hi
  simp only [VY,Int.lt_irrefl,if_false]
  have:=Zvj (σ:=Int×List Int×Unit) (ρ:=(Int×List Int×Unit) ⊕ List Int) (step:=fun v=>VZ w v.1 v.2.1) (fun v=>(∃ j:Nat,v.1=(j:Int)∧j<(Zr.Parent w).length)∧v.2.1.length=(Zr.Parent w).length) (fun v=>v.1.toNat) (fun r=>∃ r',r=.inr r'∧r'.length=(Zr.Parent w).length) (v:=(Wq ((l.length:Int)-1),l,()))
   ⟨⟨l.length-1,by show Wq _=_;rw [ZnN (by omega) (by omega)],by omega⟩,hl⟩
   (by
    rintro ⟨i,l,⟨⟩⟩ ⟨⟨j,hj,hj2⟩,hl⟩
    simp only at hj hl
    subst hj
    simp only [VZ]
    by_cases h0:(0:Int)<(j:Int)
    ·rw [if_pos h0]
     have hp:(Zr.Parent w)[j]?=some (Zr.Parent w)[j]:=List.getElem?_eq_getElem (by omega)
     generalize (Zr.Parent w)[j]=p at hp
     have hp2:=(ht j p hp).2 (by omega)
     obtain ⟨q,hq1,_⟩:=Zsa (l:=l) hp2.1 (by omega)
     have hl2:l[j]?=some l[j]:=List.getElem?_eq_getElem (by omega)
     simp only [Zu,hp,Bq,hq1,hl2]
     left
     refine ⟨_,rfl,⟨⟨j-1,by rw [ZnN (by omega) (by omega)],by omega⟩,by simp [hl]⟩,?_⟩
     show (Wq ((j:Int)-1)).toNat<((j:Int)).toNat
     rw [ZnN (by omega) (by omega)];omega
    ·rw [if_neg h0]
     right
     exact ⟨_,rfl,_,rfl,hl⟩)
  obtain ⟨r,h1,r',rfl,h3⟩:=this
  exact ⟨r',h1,h3⟩
theorem ZpE {b:Za} (h:VJ b) {k:Nat} {w:Zr} (hw:(Za.Zz b)[k]?=some w):∃ r,VR b (k:Int)=some r∧r.length≤1048576:=by
 have hW:=h.ok.2.2 k w hw
 obtain ⟨⟨l1,l8⟩,lr,lc,ls,ht,ar,ac,asn⟩:=hW
 obtain ⟨nl,hnl,hnl2⟩:=ZlY h hw
 have hsm:=Zp (ZlW (QV (JW h.sm).2.2 hw)).2.2.2
 have hnd:∃ r,Jg b (k:Int)=some r∧r.length=(Zr.Parent w).length:=by
  unfold Jg
  rw [Zu,hw,Bq,hnl,Bq,Zi (by omega),Zi (by omega),Zi (by omega),Zi (by omega)]
  refine Vn ((Zr.Parent w).length-1) (fun m v=>v.1=((m+1:Nat):Int)∧v.2.1.length=(Zr.Parent w).length) _ ⟨rfl,by simp [hnl2]⟩ ?_ ?_
  ·rintro m ⟨i,l,⟨⟩⟩ hm ⟨hi,hl⟩
   simp only at hi hl
   subst hi
   left
   have hp:(Zr.Parent w)[m+1]?=some (Zr.Parent w)[m+1]:=List.getElem?_eq_getElem (by omega)
   generalize (Zr.Parent w)[m+1]=p at hp
   have hp2:=(ht (m+1) p hp).2 (by omega)
   obtain ⟨q,hq1,_⟩:=Zsa (l:=l) hp2.1 (by omega)
   have hr:(Zr.Res w)[m+1]?=some (Zr.Res w)[m+1]:=List.getElem?_eq_getElem (by omega)
   have hn:nl[m+1]?=some nl[m+1]:=List.getElem?_eq_getElem (by omega)
   have hl2:l[m+1]?=some l[m+1]:=List.getElem?_eq_getElem (by omega)
   simp only [VH,show ((m+1:Nat):Int)<(l.length:Int) from by omega,if_true,Zu,hp,hq1,hr,hn,hl2,Bq]
   exact ⟨_,rfl,by rw [Xx (by omega)],by simp [hl]⟩
  ·rintro ⟨i,l,⟨⟩⟩ ⟨hi,hl⟩
   simp only at hi hl
   subst hi
   simp only [VH,show ¬(((Zr.Parent w).length-1+1:Nat):Int)<(l.length:Int) from by omega,if_false]
   exact ⟨_,rfl,hl⟩
 obtain ⟨nd,hnd,hnd2⟩:=hnd
 unfold VR
 rw [hnd,Bq,Zu,hw,Bq]
 refine ZhI (l:=Zr.Ze6 w) (fun m v=>v.1.length=m∧v.2.1=(m:Int)) _ ⟨rfl,rfl⟩ ?_ ?_
 ·rintro m y ⟨o,i,⟨⟩⟩ hy hm ⟨ho,hi⟩
  simp only at hi ho
  subst hi
  have hz2:=asn y (List.mem_of_getElem? hy)
  obtain ⟨q,hq1,_⟩:=Zsa (l:=nd) hz2.1 (by omega)
  simp only [Vh,show (m:Int)<((Zr.Ze6 w).length:Int) from by omega,if_true,Zu,hy,hq1,Bq]
  rw [Zi (by simp;omega)]
  exact ⟨_,rfl,by simp [ho],by rw [Xx (by omega)]⟩
 ·rintro ⟨o,i,⟨⟩⟩ ⟨ho,hi⟩
  simp only at hi ho
  subst hi
  simp only [Vh,Int.lt_irrefl,if_false]
  exact ⟨_,rfl,by omega⟩
theorem Zpf (a:ZJ):∃ r,JH a=some r∧r.length≤4:=by
 unfold JH
 repeat' split
 all_goals exact ⟨_,rfl,by simp⟩
theorem Zr2 {b:Za} (h:VJ b) {x:Ze} (hx:x∈Zb.Instances (Za.Design b)) (f:Int):∃ r,JF b x f=some r∧r.length≤32:=by
 obtain ⟨hc,⟨c,hc1,hc2⟩,_⟩:=h.ok.1.2.2.1 x hx
 have hA:=(h.ok.1.1.2.1 c (List.mem_of_getElem? hc1)).2.2.1.1
 unfold JF
 rw [XI hc.1 hc1,Bq]
 refine ZhI (l:=Zm.JQ c) (fun m v=>v.1.length≤4*m∧v.2.1=(m:Int)) _ ⟨by simp,rfl⟩ ?_ ?_
 ·rintro m y ⟨o,i,⟨⟩⟩ hy hm ⟨ho,hi⟩
  simp only at hi ho
  subst hi
  obtain ⟨ts,ht1,ht2⟩:=Zpf y
  simp only [V3,show (m:Int)<((Zm.JQ c).length:Int) from by omega,if_true,Zu,hy,ht1,Bq]
  obtain ⟨r,hr1,r',rfl,hr2⟩:=ZhI (l:=ts) (ρ:=(List JO×Int×Unit) ⊕ List JO) (step:=fun v=>Qt f (m:Int) y ts v.1 v.2.1) (v:=(o,(0:Int),())) (fun n v=>v.1.length=o.length+n∧v.2.1=(n:Int)) (fun r=>∃ r',r=.inl r'∧r'.1.length≤4*(m+1)∧r'.2.1=((m+1:Nat):Int)) ⟨rfl,rfl⟩
   (by
    rintro n z ⟨o2,i,⟨⟩⟩ hz hn ⟨ho2,hi⟩
    simp only at hi ho2
    subst hi
    simp only [Qt,show (n:Int)<(ts.length:Int) from by omega,if_true,Zu,hz,Bq]
    rw [Zi (by simp;omega)]
    exact ⟨_,rfl,by simp [ho2];omega,by rw [Xx (by omega)]⟩)
   (by
    rintro ⟨o2,i,⟨⟩⟩ ⟨ho2,hi⟩
    simp only at hi ho2
    subst hi
    simp only [Qt,Int.lt_irrefl,if_false]
    exact ⟨_,rfl,_,rfl,by simp only;omega,by rw [Xx (by omega)]⟩)
  exact ⟨r',hr1,hr2⟩
 ·rintro ⟨o,i,⟨⟩⟩ ⟨ho,hi⟩
  simp only at hi ho
  subst hi
  simp only [V3,Int.lt_irrefl,if_false]
  exact ⟨_,rfl,by omega⟩
def Short (l:List (List Int)) (n m:Nat):Prop:=l.length=n∧∀ x∈l,x.length≤m
theorem Short.set {l:List (List Int)} {n m:Nat} (h:Short l n m) {x:List Int} (hx:x.length≤m) (i:Nat):Short (l.set i x) n m:=by
 refine ⟨by simp [h.1],fun y hy=>?_⟩
 rcases List.mem_or_eq_of_mem_set hy with hy | rfl
 ·exact h.2 y hy
 ·exact hx
theorem Short.mono {l:List (List Int)} {n m p:Nat} (h:Short l n m) (hp:m≤p):Short l n p:=⟨h.1,fun x hx=>Nat.le_trans (h.2 x hx) hp⟩
theorem Zt2 {b:Za} (h:VJ b):∃ v,ZgG b=some v∧Xj.places v=places (Za.Design b)∧Xj.Block v=b:=by
 have hD:=h.ok.1
 have hf:=hD.few
 have hpl:=YW hf
 have h14:=hf.insts
 have hwn:=h.ok.2.1
 have h30:=hD.2.1.2.1
 unfold ZgG
 rw [Z4 _ hf,Bq]
 refine ZhI (l:=Zb.Instances (Za.Design b)) (fun k v=>v.2.1=(k:Int)∧v.2.2.1.length≤32*k) _ ⟨rfl,by simp⟩ ?_ ?_
 ·rintro k x ⟨n,i,c,⟨⟩⟩ hx hk ⟨hi,hc⟩
  simp only at hi hc
  subst hi
  obtain ⟨r,hr1,hr2⟩:=Zr2 h (List.mem_of_getElem? hx) n
  simp only [Zc2,show (k:Int)<((Zb.Instances (Za.Design b)).length:Int) from by omega,if_true,Zu,hx,hr1,Bq,Q6]
  rw [Zi (by omega)]
  exact ⟨_,rfl,by simp only;rw [Xx (by omega)],by simp only [List.length_append];omega⟩
 ·rintro ⟨n,i,c0,⟨⟩⟩ ⟨hi,hc0⟩
  simp only at hi hc0
  subst hi
  simp only [Zc2,Int.lt_irrefl,if_false]
  rw [Zi (by omega),Zi (by omega),Zi (by omega),Zi (by omega),Zi (by omega)]
  obtain ⟨r,hr1,r',rfl,hr2⟩:=ZhI (l:=places (Za.Design b)) (ρ:=(Int×Int×List JO×Unit) ⊕ Xj) (step:=fun v=>Za1 b (places (Za.Design b)) c0 v.1 v.2.1 v.2.2.1) (v:=((0:Int),List.replicate (Int.toNat (↑(List.length (Za.Zz b)):Int)) (0:Int),List.replicate (Int.toNat (↑(List.length (Za.Zz b)):Int)) (([]:List Int)),()))
   (fun k v=>v.1=(k:Int)∧v.2.1.length=(Za.Zz b).length∧Short v.2.2.1 (Za.Zz b).length k)
   (fun r=>∃ r',r=.inr r'∧Xj.places r'=places (Za.Design b)∧Xj.Block r'=b)
   ⟨rfl,by simp,by simp,by
    intro x hx
    rw [List.mem_replicate] at hx
    rw [hx.2];simp⟩
   (by
    rintro k x ⟨i,l0,l1,⟨⟩⟩ hx hk ⟨hi,h0,h1⟩
    simp only at hi h0 h1
    subst hi
    have hn:=Je hD (List.mem_of_getElem? hx)
    have hn1:=hn.2
    simp only [Za1,show (k:Int)<((places (Za.Design b)).length:Int) from by omega,if_true,Zu,hx,Bq]
    obtain ⟨q,hq1,_⟩:=Zsa (l:=l0) hn.1 (by omega)
    obtain ⟨p,hp1,hp2⟩:=Zsa (l:=l1) hn.1 (by have:=h1.1;omega)
    have hp3:=h1.2 p hp2
    split
    ·rw [show atI l0 (ZL.net x)=some q from hq1,Bq]
     exact ⟨_,rfl,by simp only;rw [Xx (by omega)],by simp [h0],h1.mono (by omega)⟩
    ·rw [show atI l1 (ZL.net x)=some p from hp1,Bq,Zi (by simp;omega)]
     exact ⟨_,rfl,by simp only;rw [Xx (by omega)],h0,(h1.mono (by omega)).set (by simp;omega) _⟩)
   (by
    rintro ⟨i,l0,l1,⟨⟩⟩ ⟨hi,h0,h1⟩
    simp only at hi h0 h1
    subst hi
    simp only [Za1,Int.lt_irrefl,if_false]
    obtain ⟨r,hr1,r',rfl,hr2⟩:=ZhI (l:=Za.Zz b) (ρ:=(Int×List Int×List (List Int)×Unit) ⊕ ((Int×Int×List JO×Unit) ⊕ Xj)) (step:=fun v=>Za0 b (places (Za.Design b)) l0 v.1 v.2.1 v.2.2.1 v.2.2.2.1 v.2.2.2.2.1) (v:=((0:Int),([]:List Int),([]:List (List Int)),c0,l1,()))
     (fun k v=>v.1=(k:Int)∧v.2.1.length=k∧v.2.2.1.length=k∧v.2.2.2.1.length≤448+156*k∧Short v.2.2.2.2.1 (Za.Zz b).length 78)
     (fun r=>∃ r',r=.inr (.inr r')∧Xj.places r'=places (Za.Design b)∧Xj.Block r'=b)
     ⟨rfl,rfl,rfl,by simp only;omega,h1.mono (by omega)⟩
     (by
      rintro k w ⟨i,c1,c2,c3,l2,⟨⟩⟩ hw hk ⟨hi,g1,g2,g3,g4⟩
      simp only at hi g1 g2 g3 g4
      subst hi
      obtain ⟨nl,hnl,hnl2⟩:=ZlY h hw
      obtain ⟨ed,hed,hed2⟩:=ZpE h hw
      have hpar:=(h.ok.2.2 k w hw).1.1
      have hn0:atI nl (0:Int)=some nl[0]:=(show nl[0]?=some nl[0] from List.getElem?_eq_getElem (by omega))
      obtain ⟨x1,hl2⟩:∃ x1,l2[k]?=some x1:=⟨_,List.getElem?_eq_getElem (by have:=g4.1;omega)⟩
      have hx1:=g4.2 x1 (List.mem_of_getElem? hl2)
      simp only [Za0,show (k:Int)<((Za.Zz b).length:Int) from by omega,if_true,hnl,hn0,hed,Bq,Zu,hl2]
      rw [Zi (by simp;omega),Zi (by simp;omega)]
      obtain ⟨r,hr1,r',rfl,hr2⟩:=ZhI (l:=x1) (ρ:=(Int×List Int×List (List Int)×List JO×List (List Int)×Unit) ⊕ ((Int×List Int×List (List Int)×Unit) ⊕ ((Int×Int×List JO×Unit) ⊕ Xj))) (step:=fun v=>Za7 l0 (k:Int) c1 c2 l2 nl[0] ed x1 v.1 v.2.1) (v:=((0:Int),c3,()))
       (fun m v=>v.1=(m:Int)∧v.2.1.length=c3.length+2*m)
       (fun r=>∃ r',r=.inl r'∧r'.1=((k+1:Nat):Int)∧r'.2.1.length=k+1∧r'.2.2.1.length=k+1∧r'.2.2.2.1.length≤448+156*(k+1)∧Short r'.2.2.2.2.1 (Za.Zz b).length 78)
       ⟨rfl,rfl⟩
       (by
        rintro m y ⟨i,c4,⟨⟩⟩ hy hm ⟨hi,gc⟩
        simp only at hi gc
        subst hi
        simp only [Za7,show (m:Int)<(x1.length:Int) from by omega,if_true,Zu,hy,Bq]
        have hl0:l0[k]?=some l0[k]:=List.getElem?_eq_getElem (by omega)
        generalize l0[k]=z at hl0
        obtain ⟨r,hr1,r',rfl,hr2⟩:=Vn (step:=fun v=>ZaZ l0 (k:Int) (m:Int) y v.1 v.2.1) 2 (fun j v=>v.1=(j:Int)∧v.2.1.length=c4.length+j) (fun r=>∃ r',r=.inl r'∧r'.1=((m+1:Nat):Int)∧r'.2.1.length=c4.length+2) (v:=((0:Int),c4,())) ⟨rfl,rfl⟩
         (by
          rintro j ⟨i,c5,⟨⟩⟩ hj ⟨hi,hc5⟩
          simp only at hi hc5
          subst hi
          left
          simp only [ZaZ,show (j:Int)<(2:Int) from by omega,if_true,Zu,hl0,Bq]
          rw [Zi (by simp;omega)]
          exact ⟨_,rfl,by simp only;rw [Xx (by omega)],by simp [hc5];omega⟩)
         (by
          rintro ⟨i,c5,⟨⟩⟩ ⟨hi,hc5⟩
          simp only at hi hc5
          subst hi
          simp only [ZaZ,show ¬((2:Nat):Int)<(2:Int) from by omega,if_false]
          exact ⟨_,rfl,_,rfl,by simp only;rw [Xx (by omega)],hc5⟩)
        exact ⟨r',hr1,hr2.1,by rw [hr2.2];omega⟩)
       (by
        rintro ⟨i,c4,⟨⟩⟩ ⟨hi,gc⟩
        simp only at hi gc
        subst hi
        simp only [Za7,Int.lt_irrefl,if_false]
        exact ⟨_,rfl,_,rfl,by simp only;rw [Xx (by omega)],by simp [g1],by simp [g2],by simp only;omega,g4.set hx1 _⟩)
      exact ⟨r',hr1,hr2⟩)
     (by
      rintro ⟨i,c1,c2,c3,l2,⟨⟩⟩ ⟨hi,g1,g2,g3,g4⟩
      simp only at hi
      subst hi
      simp only [Za0,Int.lt_irrefl,if_false]
      exact ⟨_,rfl,_,rfl,rfl,rfl⟩)
    exact ⟨_,hr1,_,rfl,hr2⟩)
  exact ⟨r',hr1,hr2⟩
/-
  Plain laws: spans, slews.
-/
def Zhx (s:YQ):Prop:=0≤YQ.Early s∧YQ.Early s≤YQ.Late s∧YQ.Late s≤1000000
theorem Zct (s:YQ):ZcZ s=some (tr (Zhx s)):=by
 unfold ZcZ Zhx
 exact Yv (fun _=>Yv (fun _=>Jw decide_eq_true_iff))
def ZpC (s:YQ):Prop:=(-1000000000≤YQ.Early s∧YQ.Early s≤1000000000)∧(-1000000000≤YQ.Late s∧YQ.Late s≤1000000000)∧YQ.Early s≤YQ.Late s
theorem Zci (s:YQ):ZdW s=some (tr (ZpC s)):=by
 unfold ZdW ZpC Zh5
 exact YA (Jt (Xv _ _ _)) (fun _=>YA (Jt (Xv _ _ _)) (fun _=>Jw decide_eq_true_iff))
theorem ZiC (s:YQ):Zdd s=some (tr (Zhx s)):=by
 unfold Zdd ZhP
 refine Vb (YA (Zci s) (fun _=>YA (Jt (Xv _ _ _)) (fun _=>Jt (Jt (Xv _ _ _))))) ?_
 unfold Zhx ZpC
 omega
/-
  Plain laws: corners, exceptions, externals.
-/
def Zwq (e l:Int):Prop:=100≤e∧e≤l∧l≤5000
def ZhH (c:Zy):Prop:=VW (Zy.Name c)=true∧Zwq (Zy.Zbc c) (Zy.ZdE c)∧Zwq (Zy.Zcb c) (Zy.Zeo c)
def Zi4 (l:List Zy):Prop:=l.length≤4∧(∀ c∈l,ZhH c)∧X7 (l.map Zy.Name) l.length
theorem Zyi {c:Zy} (h:sm Xf c):(Zy.Name c).length≤4611686018427387904:=by
 refine ZfS ?_
 first | exact h.1 | exact h.2.1
theorem Zl1 (e l:Int):Zbv e l=some (tr (Zwq e l)):=by
 unfold Zbv Zwq
 exact Yv (fun _=>Yv (fun _=>Jw decide_eq_true_iff))
theorem Zoa (c:Zy):Zfu c=some (tr (ZhH c)):=by
 unfold Zfu
 exact YA (by rw [Zej];exact Jw Iff.rfl) (fun _=>YA (Zl1 _ _) (fun _=>Jt (Zl1 _ _)))
theorem Zn4 (c:Zy) (h:sm Xf c):Zfj c=some (tr (ZhH c)):=by
 unfold Zfj
 rw [Qs (l:=[Zy.Zbc c,Zy.ZdE c,Zy.Zcb c,Zy.Zeo c]) (show List.length _≤_ by simp) (fun _ x=>(100:Int)≤x∧x≤5000) (bad:=false) (good:=tr (VW (Zy.Name c)=true∧Zy.Zbc c≤Zy.ZdE c∧Zy.Zcb c≤Zy.Zeo c))
  (fun k x hx hk _=>by
   simp only [ZcL,show (k:Int)<((List.length [Zy.Zbc c,Zy.ZdE c,Zy.Zcb c,Zy.Zeo c]:Nat):Int) from by omega,if_true,Zu,hx,Bq,Qf]
   constructor
   ·intro hh;rw [if_pos (Yb hh)]
   ·intro hh;rw [if_neg (fun q=>hh ((Y9 _).1 q))])
  (fun _=>by
   simp only [ZcL,Int.lt_irrefl,if_false,JL _ (Zyi h),Bq]
   by_cases a:VW (Zy.Name c)=true
   ·rw [if_pos a]
    by_cases b:Zy.Zbc c≤Zy.ZdE c
    ·rw [if_pos b]
     congr 2
     exact (ZlV (by rw [decide_eq_true_eq];exact ⟨fun q=>⟨a,b,q⟩,fun q=>q.2.2⟩)).symm
    ·rw [if_neg b,ZQ (fun q=>b q.2.1)]
   ·rw [if_neg a,ZQ (fun q=>a q.1)]),ZdB]
 congr 1
 refine YB ?_
 rw [V9]
 simp only [List.mem_cons,List.not_mem_nil,or_false,forall_eq_or_imp,forall_eq]
 unfold ZhH Zwq
 constructor
 ·rintro ⟨⟨q1,q2,q3,q4⟩,q5,q6,q7⟩;exact ⟨q5,by omega,by omega⟩
 ·rintro ⟨q5,q6,q7⟩;exact ⟨by omega,q5,by omega,by omega⟩
theorem Zlz (l:List Zy) (h:sm (.sl Xf) l):Zdj l=some (tr (Zi4 l)):=by
 have hs:=Zp h
 unfold Zdj
 rw [Qs (YL h) (fun k c=>ZhH c∧∀ (j:Nat) (q:Zy),j<k→l[j]?=some q→Zy.Name q≠Zy.Name c) (bad:=false) (good:=tr (l.length≤4))
  (fun k c hx hk _=>by
   simp only [Zbj,show (k:Int)<(l.length:Int) from by omega,if_true,Zu,hx,Bq,Zn4 c (QV h hx)]
   by_cases hC:ZhH c
   ·rw [if_pos (Yb hC),ZkY (f:=Zy.Name) (l:=l) (x:=c) (k:=k) (by omega) (by omega) (bad:=.inr false) (good:=.inl (Wq ((k:Int)+1),()))
     (fun j y hj hy=>by
      simp only [Zbo,show (j:Int)<(k:Int) from by omega,if_true,Zu,hy,Bq]
      split<;>rfl)
     (by simp only [Zbo,Int.lt_irrefl,if_false])]
    constructor
    ·intro hh;rw [YS hh.2]
    ·intro hh;rw [YH (fun q=>hh ⟨hC,q⟩)]
   ·rw [if_neg (by rw [ZQ hC];simp)]
    exact ⟨fun hh=>absurd hh.1 hC,fun _=>rfl⟩)
  (fun _=>by
   simp only [Zbj,Int.lt_irrefl,if_false]
   congr 2
   exact (ZlV (by rw [decide_eq_true_eq];omega)).symm)]
 rw [ZdB]
 congr 1
 refine YB ?_
 unfold Zi4
 rw [ZoN,←V9]
 constructor
 ·rintro ⟨q,q8⟩
  exact ⟨q8,fun k x hx=>(q k x hx).1,fun k x hx=>⟨(q k x hx).1.1,(q k x hx).2⟩⟩
 ·rintro ⟨q8,q1,q2⟩
  exact ⟨fun k x hx=>⟨q1 k x hx,(q2 k x hx).2⟩,q8⟩
theorem Zj0 (l:List Zy) (h:sm (.sl Xf) l) (h0:l.length≠0):ZbC l=some (tr (Zi4 l)):=by
 have hs:=Zp h
 unfold ZbC
 have hlen:(l.map Zy.Name).length=l.length:=by simp
 have:=ZgW (l:=l) (ρ:=Bool) (fun k=>((l.map Zy.Name).take k,(k:Int),())) (fun _ c=>ZhH c) (step:=fun v=>Qb l v.1 v.2.1) (bad:=false) (good:=tr (l.length≤4∧X7 (l.map Zy.Name) l.length))
  (fun k c hx hk _=>by
   have hn:(l.map Zy.Name)[k]?=some (Zy.Name c):=by simp [hx]
   simp only [Qb,show (k:Int)<(l.length:Int) from by omega,if_true,Zu,hx,Bq,Zoa c]
   rw [Zi (by simp only [List.length_take,List.length_singleton,List.length_map];omega),Z8 hn,Xx (by omega)]
   constructor
   ·intro hh;rw [if_pos (Yb hh)]
   ·intro hh;rw [if_neg (by rw [ZQ hh];simp)])
  (fun hA=>by
   have e0:(l.map Zy.Name).take l.length=l.map Zy.Name:=by rw [←hlen,List.take_length]
   simp only [Qb,Int.lt_irrefl,if_false,e0,show Zam l=some (l.length:Int) from rfl,Bq,Xv]
   by_cases h4:l.length≤4
   ·rw [if_pos (Yb (by omega)),QY _ (by rw [hlen];omega),Bq,hlen]
    congr 2
    exact YB ⟨fun q=>⟨h4,q⟩,fun q=>q.2⟩
   ·rw [if_neg (fun q=>h4 (by have:=(Y9 _).1 q;omega)),ZQ (fun q=>h4 q.1)])
 refine (show Zv (fun v=>Qb l v.1 v.2.1) (([]:List (List UInt8)),(0:Int),())=_ from this).trans ?_
 rw [ZdB]
 congr 1
 refine YB ?_
 rw [V9]
 exact ⟨fun q=>⟨q.2.1,q.1,q.2.2⟩,fun q=>⟨q.2.1,q.1,q.2.2⟩⟩
def Zt0 (k v:Int):Prop:=(k=1∧v=0)∨(k=2∧1≤v∧v≤10)∨((k=3∨k=4)∧0≤v∧v≤1000000000)
def ZmH (n:Nat) (l:List Int):Prop:=l.length≤4∧ZiJ l 0 ((n:Int)-1)
def ZpM (n:Nat) (e:Zg):Prop:=ZmH n (Zg.From e)∧ZmH n (Zg.Through e)∧ZmH n (Zg.To e)∧Inc (Zg.From e)∧Inc (Zg.To e)∧Zt0 (Zg.Kind e) (Zg.Value e)
theorem ZzG {e:Zg} (h:sm Yn e):sm (.sl (.int .i64)) (Zg.From e)∧sm (.sl (.int .i64)) (Zg.Through e)∧sm (.sl (.int .i64)) (Zg.To e):=by
 refine ⟨?_,?_,?_⟩
 all_goals first | exact h.1 | exact h.2.1 | exact h.2.2.1 | exact h.2.2.2.1 | exact h.2.2.2.2.1
theorem ZpG (k v:Int):Zgv k v=some (tr (Zt0 k v)):=by
 unfold Zgv Zt0
 simp only [Xv,Bq]
 by_cases k1:k=1
 ·rw [if_pos k1];exact Jw (by rw [decide_eq_true_eq];omega)
 rw [if_neg k1]
 by_cases k2:k=2
 ·rw [if_pos k2];congr 1;exact YB (by omega)
 rw [if_neg k2]
 by_cases k3:k=3
 ·rw [if_pos k3,if_pos k3];congr 1;exact YB (by omega)
 rw [if_neg k3]
 by_cases k4:k=4
 ·rw [if_pos k4];congr 1;exact YB (by omega)
 ·rw [if_neg k4,ZQ (by omega)]
theorem Zho (v:Xj) (e:Zg) (h:sm Yn e) (hn:(Xj.places v).length≤1048576):QI v e=some (tr (ZpM (Xj.places v).length e)):=by
 obtain ⟨a1,a2,a3⟩:=ZzG h
 have e1:Wq (((Xj.places v).length:Int)-1)=((Xj.places v).length:Int)-1:=Jr (by omega) (by omega)
 unfold QI
 rw [Qs (l:=[Zg.From e,Zg.Through e,Zg.To e]) (show List.length _≤_ by simp) (fun _ x=>ZmH (Xj.places v).length x) (bad:=false) (good:=tr (Zt0 (Zg.Kind e) (Zg.Value e)∧Inc (Zg.From e)∧Inc (Zg.To e)))
  (fun k x hx hk _=>by
   have hxs:x.length≤1048576:=by
    have:=List.mem_of_getElem? hx
    simp only [List.mem_cons,List.not_mem_nil,or_false] at this
    rcases this with rfl | rfl | rfl
    ·exact Zp a1
    ·exact Zp a2
    ·exact Zp a3
   simp only [VB,show (k:Int)<((List.length [Zg.From e,Zg.Through e,Zg.To e]:Nat):Int) from by omega,if_true,Zu,hx,Bq,show Xp (Xj.places v)=some ((Xj.places v).length:Int) from rfl,e1,Zg2 x _ _ hxs]
   unfold ZmH
   by_cases h4:(4:Int)<(x.length:Int)
   ·rw [if_pos h4]
    exact ⟨fun hh=>by omega,fun _=>rfl⟩
   ·rw [if_neg h4]
    constructor
    ·intro hh;rw [if_pos (Yb hh.2)]
    ·intro hh;rw [if_neg (fun q=>hh ⟨by omega,(Y9 _).1 q⟩)])
  (fun _=>by
   simp only [VB,Int.lt_irrefl,if_false,ZpG,Bq,Zb5 _ (YL (t:=.int .i64) a1),Zb5 _ (YL (t:=.int .i64) a3)]
   by_cases q1:Zt0 (Zg.Kind e) (Zg.Value e)
   ·rw [if_pos (Yb q1)]
    by_cases q2:Inc (Zg.From e)
    ·rw [if_pos (Yb q2)]
     congr 2
     exact YB ⟨fun q=>⟨q1,q2,q⟩,fun q=>q.2.2⟩
    ·rw [if_neg (fun q=>q2 ((Y9 _).1 q)),ZQ (fun q=>q2 q.2.1)]
   ·rw [if_neg (fun q=>q1 ((Y9 _).1 q)),ZQ (fun q=>q1 q.1)]),ZdB]
 congr 1
 refine YB ?_
 rw [V9]
 simp only [List.mem_cons,List.not_mem_nil,or_false,forall_eq_or_imp,forall_eq]
 unfold ZpM
 exact ⟨fun ⟨⟨q1,q2,q3⟩,q4,q5,q6⟩=>⟨q1,q2,q3,q5,q6,q4⟩,fun ⟨q1,q2,q3,q5,q6,q4⟩=>⟨⟨q1,q2,q3⟩,q4,q5,q6⟩⟩
theorem ZBA {l:List Int}:Inc l↔ZeY l (fun k x=>∀ y,0<k→l[k-1]?=some y→y<x):=by
 constructor
 ·intro h k x hx y hk hy
  exact h (k-1) y x hy (by rw [show k-1+1=k by omega];exact hx)
 ·intro h k x y hx hy
  exact h (k+1) y hy x (by omega) hx
theorem ZdZ (b:Za) (hf:Few (Za.Design b)) (l:List Int) (srt:Bool) (h:sm (.sl (.int .i64)) l):ZaH b l srt=some (tr (ZmH (places (Za.Design b)).length l∧(srt=true→Inc l))):=by
 have hs:=Zp h
 have hpl:=YW hf
 have e1:Wq (((places (Za.Design b)).length:Int)-1)=((places (Za.Design b)).length:Int)-1:=Jr (by omega) (by omega)
 have hcnt:Zfo b=some ((places (Za.Design b)).length:Int):=by unfold Zfo;rw [YT _ hf];rfl
 unfold ZaH
 rw [Qs (YL h) (fun k x=>(0≤x∧x≤((places (Za.Design b)).length:Int)-1)∧(srt=true→∀ y,0<k→l[k-1]?=some y→y<x)) (bad:=false) (good:=tr (l.length≤4))
  (fun k x hx hk _=>by
   simp only [ZbV,show (k:Int)<(l.length:Int) from by omega,if_true,Zu,hx,Bq,hcnt,Qf,e1]
   by_cases hb:0≤x∧x≤((places (Za.Design b)).length:Int)-1
   ·rw [if_pos (Yb hb)]
    cases srt
    ·simp only [Bool.false_eq_true,if_false]
     exact ⟨fun _=>trivial,fun hh=>absurd ⟨hb,fun q=>by cases q⟩ hh⟩
    ·simp only [if_true]
     by_cases h0:(0:Int)<(k:Int)
     ·obtain ⟨y,hy⟩:∃ y,l[k-1]?=some y:=⟨_,List.getElem?_eq_getElem (by omega)⟩
      rw [if_pos h0,ZnN (by omega) (by omega),Zu,hy,Bq]
      constructor
      ·intro hh
       rw [if_neg]
       have:=hh.2 trivial y (by omega) rfl
       omega
      ·intro hh
       rw [if_pos]
       apply Classical.byContradiction
       intro hlt
       refine hh ⟨hb,fun _ y' _ hy'=>?_⟩
       injection hy' with hy'
       have:¬x≤y:=hlt
       omega
     ·rw [if_neg h0]
      exact ⟨fun _=>rfl,fun hh=>absurd ⟨hb,fun _ y hk0=>by omega⟩ hh⟩
   ·rw [if_neg (fun q=>hb ((Y9 _).1 q))]
    exact ⟨fun hh=>absurd hh.1 hb,fun _=>rfl⟩)
  (fun _=>by
   simp only [ZbV,Int.lt_irrefl,if_false]
   congr 2
   exact (ZlV (by rw [decide_eq_true_eq];omega)).symm),ZdB]
 congr 1
 refine YB ?_
 unfold ZmH
 rw [ZBA]
 constructor
 ·rintro ⟨q1,q2⟩
  exact ⟨⟨q2,V9.1 (fun k x hx=>(q1 k x hx).1)⟩,fun hs k x hx=>(q1 k x hx).2 hs⟩
 ·rintro ⟨⟨q2,q1⟩,q3⟩
  exact ⟨fun k x hx=>⟨q1 x (List.mem_of_getElem? hx),fun hs=>q3 hs k x hx⟩,q2⟩
theorem Zk2 (b:Za) (h:VJ b) (e:Zg) (he:sm Yn e):Zcs b e=some (tr (ZpM (places (Za.Design b)).length e)):=by
 obtain ⟨a1,a2,a3⟩:=ZzG he
 have hf:=h.ok.1.few
 unfold Zcs
 rw [Zf2 b h.sm,Bq,if_pos (Yb h.ok)]
 refine Vb (YA (ZdZ b hf _ _ a1) (fun _=>YA (ZdZ b hf _ _ a2) (fun _=>YA (ZdZ b hf _ _ a3) (fun _=>(?_:_=some (tr (Zt0 (Zg.Kind e) (Zg.Value e)))))))) ?_
 ·unfold Zt0
  simp only [Qf,Bq]
  by_cases k1:Zg.Kind e=1
  ·rw [if_pos k1];exact Jw (by rw [decide_eq_true_eq];omega)
  rw [if_neg k1]
  by_cases k2:Zg.Kind e=2
  ·rw [if_pos k2];congr 1;exact YB (by omega)
  rw [if_neg k2]
  by_cases k3:Zg.Kind e=3
  ·rw [if_pos k3,if_pos k3];congr 1;exact YB (by omega)
  rw [if_neg k3]
  by_cases k4:Zg.Kind e=4
  ·rw [if_pos k4];congr 1;exact YB (by omega)
  ·rw [if_neg k4,ZQ (by omega)]
 ·unfold ZpM
  constructor
  ·rintro ⟨⟨q1,q2⟩,⟨q3,_⟩,⟨q4,q5⟩,q6⟩;exact ⟨q1,q3,q4,q2 rfl,q5 rfl,q6⟩
  ·rintro ⟨q1,q3,q4,q2,q5,q6⟩;exact ⟨⟨q1,fun _=>q2⟩,⟨q3,fun q=>by cases q⟩,⟨q4,fun _=>q5⟩,q6⟩
/-
  Plain laws: externals, setups; the law.
-/
theorem ZvM {ρ:Type} {P Q:Prop} {_:Decidable P} {m:Option ρ} {a b:ρ} (hm:P→m=some (sel Q a b)):(if P then m else some b)=some (sel (P∧Q) a b):=by
 by_cases h:P
 ·rw [if_pos h,hm h]
  by_cases q:Q
  ·rw [YS q,YS ⟨h,q⟩]
  ·rw [YH q,YH (fun x=>q x.2)]
 ·rw [if_neg h,YH (fun q=>h q.1)]
theorem Zkg {ρ:Type} {P Q:Prop} {_:Decidable P} {m:Option ρ} {a b:ρ} (hm:¬P→m=some (sel Q a b)):(if P then some b else m)=some (sel (¬P∧Q) a b):=by
 by_cases h:P
 ·rw [if_pos h,YH (fun q=>q.1 h)]
 ·rw [if_neg h,hm h]
  by_cases q:Q
  ·rw [YS q,YS ⟨h,q⟩]
  ·rw [YH q,YH (fun x=>q x.2)]
theorem ZhA {ρ:Type} {P Q:Prop} {c:Option Bool} {m:Option ρ} {a b:ρ} (h:c=some (tr P)) (hm:P→m=some (sel Q a b)):(c.bind fun x=>if x=true then m else some b)=some (sel (P∧Q) a b):=by
 rw [h,Bq]
 by_cases hp:P
 ·rw [if_pos (Yb hp),hm hp]
  by_cases q:Q
  ·rw [YS q,YS ⟨hp,q⟩]
  ·rw [YH q,YH (fun x=>q x.2)]
 ·rw [if_neg (by rw [ZQ hp];simp),YH (fun q=>hp q.1)]
theorem ZzC {ρ:Type} {a b:ρ}:some a=some (sel True a b):=by rw [YS trivial]
theorem ZkB {ρ:Type} {m:Option ρ} {P Q:Prop} {a b:ρ} (h:m=some (sel P a b)) (hpq:P↔Q):m=some (sel Q a b):=by rw [h,propext hpq]
theorem Zum {ρ:Type} {m:Option ρ} {P:Prop} {a b:ρ} (h:m=some (sel P a b)):(P→m=some a)∧(¬P→m=some b):=⟨fun q=>by rw [h,YS q],fun q=>by rw [h,YH q]⟩
def Zr1 (s:YQ):Prop:=YQ.Early s≤YQ.Late s∧-100000≤YQ.Early s∧YQ.Late s≤100000
def ZAp (pl:List Pl) (drv:Bool) (i:Int):Prop:=∃ p,atI pl i=some p∧p.1<0∧p.2.2.2.1=drv
def ZkE (pl:List Pl) (nc:Int) (drv:Bool) (l:List Zj) (k:Nat) (x:Zj):Prop :=
 (0≤Zj.Place x∧Zj.Place x≤(pl.length:Int)-1)∧ZAp pl drv (Zj.Place x)∧(∀ y,0<k→l[k-1]?=some y→Zj.Place y<Zj.Place x)∧
 (0≤Zj.Clock x∧Zj.Clock x≤nc-1)∧Zr1 (Zj.Delay x)∧Zhx (Zj.ZdS x)∧(drv=false→YQ.Early (Zj.ZdS x)=0∧YQ.Late (Zj.ZdS x)=0)
def Zhk (pl:List Pl) (nc:Int) (drv:Bool) (l:List Zj):Prop:=ZeY l (ZkE pl nc drv l)
theorem ZiT (v:Xj) (i:Int) (hn:(Xj.places v).length≤1048576):Vx v i=some (tr (0≤i∧i≤((Xj.places v).length:Int)-1)):=by
 unfold Vx
 rw [show Xp (Xj.places v)=some ((Xj.places v).length:Int) from rfl,Bq,Jr (by omega) (by omega)]
 exact Jt (Xv _ _ _)
theorem Zon {s:YQ}:(Decidable.decide (YQ.Early s=(0:Int))&&Decidable.decide (YQ.Late s=(0:Int)))=true↔YQ.Early s=0∧YQ.Late s=0:=by simp
theorem Zey {pl:List Pl} {drv:Bool} {i:Int} {p:Pl} (h:atI pl i=some p):ZAp pl drv i↔¬(0:Int)≤p.1∧(p.2.2.2.1 == drv)=true:=by
 unfold ZAp
 rw [h,beq_iff_eq]
 constructor
 ·rintro ⟨q,q1,q2,q3⟩
  injection q1 with q1
  subst q1
  exact ⟨by omega,q3⟩
 ·rintro ⟨q1,q2⟩
  exact ⟨p,rfl,by omega,q2⟩
theorem Zjx {l:List Zj} {k:Nat} {x y:Zj} (hk:0<k) (hy:l[k-1]?=some y):(∀ y,0<k→l[k-1]?=some y→Zj.Place y<Zj.Place x)↔¬Zj.Place x≤Zj.Place y:=by
 constructor
 ·intro h
  have:=h y hk hy
  omega
 ·intro h z _ hz
  rw [hy] at hz
  injection hz with hz
  subst hz
  omega
theorem ZhR {l:List Zj} {k:Nat} {x:Zj} (hk:¬0<k):(∀ y,0<k→l[k-1]?=some y→Zj.Place y<Zj.Place x)↔True:=⟨fun _=>trivial,fun _ y h=>absurd h hk⟩
theorem Ze1 (v:Xj) (l:List Zj) (drv:Bool) (nc:Int) (h:sm (.sl Yg) l) (hn:(Xj.places v).length≤1048576) (h0:0≤nc) (h1:nc≤1048576):Qx v l drv nc=some (tr (Zhk (Xj.places v) nc drv l)):=by
 have hs:=Zp h
 have e1:Wq (nc-1)=nc-1:=Jr (by omega) (by omega)
 unfold Qx
 rw [Qs (YL h) (ZkE (Xj.places v) nc drv l) (bad:=false) (good:=true)
  (fun k x hx hk _=>by
   refine Zum ?_
   simp only [Vj,show (k:Int)<(l.length:Int) from by omega,if_true,Zu,hx,Bq,e1]
   refine ZkB (Q:=ZkE (Xj.places v) nc drv l k x) (P:=(0≤Zj.Place x∧Zj.Place x≤((Xj.places v).length:Int)-1)∧ZkE (Xj.places v) nc drv l k x) (ZhA (ZiT v _ hn) (fun hp=>?_)) ⟨fun q=>q.2,fun q=>⟨q.1,q⟩⟩
   obtain ⟨p,hp1,_⟩:=Zsa hp.1 (show Zj.Place x<((Xj.places v).length:Int) by omega)
   rw [hp1,Bq]
   by_cases hk0:0<k
   ·obtain ⟨y,hy⟩:∃ y,l[k-1]?=some y:=⟨_,List.getElem?_eq_getElem (by omega)⟩
    rw [if_pos (show (0:Int)<(k:Int) by omega),ZnN (by omega) (by omega),Zu,hy,Bq]
    cases drv
    ·simp only [Bool.false_eq_true,if_false]
     refine ZkB (Zkg (fun _=>ZvM (fun _=>Zkg (fun _=>ZhA (Xv _ _ _) (fun _=>ZhA (Zci _) (fun _=>Zkg (fun _=>Zkg (fun _=>ZvM (fun _=>ZzC))))))))) ?_
     unfold ZkE
     rw [Zey hp1,Zjx hk0 hy,Zon]
     unfold Zr1 Zhx ZpC
     grind
    ·simp only [if_true]
     refine ZkB (Zkg (fun _=>ZvM (fun _=>Zkg (fun _=>ZhA (Xv _ _ _) (fun _=>ZhA (Zci _) (fun _=>Zkg (fun _=>Zkg (fun _=>ZhA (ZiC _) (fun _=>ZzC))))))))) ?_
     unfold ZkE
     rw [Zey hp1,Zjx hk0 hy]
     unfold Zr1 Zhx ZpC
     grind
   ·rw [if_neg (show ¬(0:Int)<(k:Int) by omega)]
    cases drv
    ·simp only [Bool.false_eq_true,if_false]
     refine ZkB (Zkg (fun _=>ZvM (fun _=>ZhA (Xv _ _ _) (fun _=>ZhA (Zci _) (fun _=>Zkg (fun _=>Zkg (fun _=>ZvM (fun _=>ZzC)))))))) ?_
     unfold ZkE
     rw [Zey hp1,ZhR hk0,Zon]
     unfold Zr1 Zhx ZpC
     grind
    ·simp only [if_true]
     refine ZkB (Zkg (fun _=>ZvM (fun _=>ZhA (Xv _ _ _) (fun _=>ZhA (Zci _) (fun _=>Zkg (fun _=>Zkg (fun _=>ZhA (ZiC _) (fun _=>ZzC)))))))) ?_
     unfold ZkE
     rw [Zey hp1,ZhR hk0]
     unfold Zr1 Zhx ZpC
     grind)
  (fun _=>by simp only [Vj,Int.lt_irrefl,if_false]),Zl5]
 rfl
theorem Ze5 (b:Za) (s:Zn) (l:List Zj) (drv:Bool) (h:sm (.sl Yg) l) (hf:Few (Za.Design b)) (hc:(Zn.YE s).length≤1048576):J5 b s l drv=some (tr (Zhk (places (Za.Design b)) ((Zn.YE s).length:Int) drv l)):=by
 have hs:=Zp h
 have hpl:=YW hf
 have e1:Wq (((Zn.YE s).length:Int)-1)=((Zn.YE s).length:Int)-1:=Jr (by omega) (by omega)
 have e2:Wq (((places (Za.Design b)).length:Int)-1)=((places (Za.Design b)).length:Int)-1:=Jr (by omega) (by omega)
 unfold J5
 rw [YT _ hf,Bq]
 rw [Qs (YL h) (ZkE (places (Za.Design b)) ((Zn.YE s).length:Int) drv l) (bad:=false) (good:=true)
  (fun k x hx hk _=>by
   refine Zum ?_
   simp only [Zas,show (k:Int)<(l.length:Int) from by omega,if_true,Zu,hx,Bq,e1,e2]
   refine ZkB (Q:=ZkE (places (Za.Design b)) ((Zn.YE s).length:Int) drv l k x) (P:=(0≤Zj.Place x∧Zj.Place x≤((places (Za.Design b)).length:Int)-1)∧ZkE (places (Za.Design b)) ((Zn.YE s).length:Int) drv l k x) (ZhA (Qf _ _ _) (fun hp=>?_)) ⟨fun q=>q.2,fun q=>⟨q.1,q⟩⟩
   obtain ⟨p,hp1,_⟩:=Zsa hp.1 (show Zj.Place x<((places (Za.Design b)).length:Int) by omega)
   rw [hp1]
   simp only [Bq]
   by_cases hk0:0<k
   ·obtain ⟨y,hy⟩:∃ y,l[k-1]?=some y:=⟨_,List.getElem?_eq_getElem (by omega)⟩
    rw [if_pos (show (0:Int)<(k:Int) by omega),ZnN (by omega) (by omega),Zu,hy,Bq]
    cases drv
    ·simp only [Bool.false_eq_true,if_false]
     refine ZkB (Zkg (fun _=>ZhA (Qf _ _ _) (fun _=>Zkg (fun _=>ZvM (fun _=>Zkg (fun _=>Zkg (fun _=>Zkg (fun _=>ZhA (Zct _) (fun _=>ZvM (fun _=>ZzC)))))))))) ?_
     unfold ZkE
     rw [Zey hp1,Zjx hk0 hy,Zon]
     unfold Zr1 Zhx
     grind
    ·simp only [if_true]
     refine ZkB (Zkg (fun _=>ZhA (Qf _ _ _) (fun _=>Zkg (fun _=>ZvM (fun _=>Zkg (fun _=>Zkg (fun _=>Zkg (fun _=>ZhA (Zct _) (fun _=>ZzC))))))))) ?_
     unfold ZkE
     rw [Zey hp1,Zjx hk0 hy]
     unfold Zr1 Zhx
     grind
   ·rw [if_neg (show ¬(0:Int)<(k:Int) by omega)]
    cases drv
    ·simp only [Bool.false_eq_true,if_false]
     refine ZkB (ZhA (Qf _ _ _) (fun _=>Zkg (fun _=>ZvM (fun _=>Zkg (fun _=>Zkg (fun _=>Zkg (fun _=>ZhA (Zct _) (fun _=>ZvM (fun _=>ZzC))))))))) ?_
     unfold ZkE
     rw [Zey hp1,ZhR hk0,Zon]
     unfold Zr1 Zhx
     grind
    ·simp only [if_true]
     refine ZkB (ZhA (Qf _ _ _) (fun _=>Zkg (fun _=>ZvM (fun _=>Zkg (fun _=>Zkg (fun _=>Zkg (fun _=>ZhA (Zct _) (fun _=>ZzC)))))))) ?_
     unfold ZkE
     rw [Zey hp1,ZhR hk0]
     unfold Zr1 Zhx
     grind)
  (fun _=>by simp only [Zas,Int.lt_irrefl,if_false]),Zl5]
 rfl
theorem Ztr {s:Zn} (h:sm QX s):sm (.sl XF) (Zn.YE s)∧sm (.sl Yg) (Zn.XV s)∧sm (.sl Yg) (Zn.Y7 s)∧sm (.sl Yn) (Zn.Exceptions s)∧sm (.sl Xf) (Zn.XT s):=by
 refine ⟨?_,?_,?_,?_,?_⟩
 all_goals first | exact h.1 | exact h.2.1 | exact h.2.2.1 | exact h.2.2.2.1 | exact h.2.2.2.2.1
theorem ZyX {l:List Zl} (h:sm (.sl XF) l):Zzl l:=by
 intro c hc
 have:=ZqL h hc
 refine ZfS ?_
 first | exact this.1 | exact this.2.1
def ZpV (pl:List Pl) (s:Zn):Prop :=
 Zmj (Zn.YE s)∧(∀ c∈Zn.YE s,Zl.Place c<(pl.length:Int))∧Zhk pl ((Zn.YE s).length:Int) true (Zn.XV s)∧Zhk pl ((Zn.YE s).length:Int) false (Zn.Y7 s)∧
 (Zn.Exceptions s).length≤6∧(∀ e∈Zn.Exceptions s,ZpM pl.length e)∧Zi4 (Zn.XT s)
theorem Zmj.place {l:List Zl} (h:Zmj l) {c:Zl} (hc:c∈l):0≤Zl.Place c:=by
 obtain ⟨k,hk⟩:=List.mem_iff_getElem?.1 hc
 have h1:=h.2.1 k c (by have:=(List.getElem?_eq_some_iff.1 hk).1;omega) hk
 unfold Zh8 Zk7 at h1
 simp only [Bool.and_eq_true,decide_eq_true_eq] at h1
 exact h1.1.1.1.1.1
theorem Zo9 (v:Xj) (s:Zn) (h:sm QX s) (hn:(Xj.places v).length≤1048576):ZbF v s=some (tr (ZpV (Xj.places v) s)):=by
 obtain ⟨a1,a2,a3,a4,a5⟩:=Ztr h
 have s1:=Zp a1
 unfold ZbF
 rw [show ZaT (Zn.YE s)=some ((Zn.YE s).length:Int) from rfl,Bq]
 refine Vb (YA (ZnZ _) (fun hC=>Zux (P:=¬∀ c∈Zn.YE s,Zl.Place c<((Xj.places v).length:Int)) ?_ (fun _=>YA (Ze1 v _ true _ a2 hn (by omega) (by omega)) (fun _=>YA (Ze1 v _ false _ a3 hn (by omega) (by omega)) (fun _=>Zf6 (fun _=>Zux (P:=¬∀ e∈Zn.Exceptions s,ZpM (Xj.places v).length e) ?_ (fun _=>(?_:_=some (tr (Zi4 (Zn.XT s))))))))))) ?_
 ·rw [XP (YL a1) (fun c=>!tr (0≤Zl.Place c∧Zl.Place c≤((Xj.places v).length:Int)-1)) (fun c _=>by
   unfold Ve
   show (Vx v (Zl.Place c)).bind _=_
   rw [ZiT v _ hn];rfl)]
  refine Jw ?_
  rw [List.any_eq_true]
  constructor
  ·rintro ⟨c,hc,hb⟩ hall
   have:=hall c hc
   have h0:=hC.place hc
   rw [Yb (by omega)] at hb
   cases hb
  ·intro hh
   apply Classical.byContradiction
   intro hne
   refine hh (fun c hc=>?_)
   apply Classical.byContradiction
   intro hlt
   exact hne ⟨c,hc,by rw [ZQ (by omega)];rfl⟩
 ·rw [Xt (YL a4) (fun e=>!tr (ZpM (Xj.places v).length e)) (fun e he=>by
   unfold Va
   show (QI v e).bind _=_
   rw [Zho v e (ZqL a4 he) hn];rfl)]
  refine Jw ?_
  rw [List.any_eq_true]
  constructor
  ·rintro ⟨c,hc,hb⟩ hall
   rw [Yb (hall c hc)] at hb
   cases hb
  ·intro hh
   apply Classical.byContradiction
   intro hne
   refine hh (fun c hc=>?_)
   apply Classical.byContradiction
   intro hlt
   exact hne ⟨c,hc,by rw [ZQ hlt];rfl⟩
 ·by_cases h0:(Zn.XT s).length=0
  ·rw [if_pos (by omega)]
   refine Jw ⟨fun _=>?_,fun _=>rfl⟩
   have:Zn.XT s=[]:=List.eq_nil_of_length_eq_zero h0
   rw [this]
   exact ⟨by simp,fun c hc=>(by cases hc),fun j _ hj=>(by simp at hj)⟩
  ·rw [if_neg (by omega),Zj0 _ a5 h0];rfl
 ·unfold ZpV
  simp only [Classical.not_not]
  constructor
  ·rintro ⟨q1,q2,q3,q4,q5,q6,q7⟩;exact ⟨q1,q2,q3,q4,by omega,q6,q7⟩
  ·rintro ⟨q1,q2,q3,q4,q5,q6,q7⟩;exact ⟨q1,q2,q3,q4,by omega,q6,q7⟩
def ZhG (b:Za) (s:Zn):Prop:=ZmZ b∧ZpV (places (Za.Design b)) s
theorem Zi9 (b:Za) (s:Zn) (hb:sm Y3 b) (hs:sm QX s):ZeI b s=some (tr (ZhG b s)):=by
 unfold ZeI
 refine YA (ZoV b hb) (fun hB=>?_)
 obtain ⟨v,h1,h2,_⟩:=Zt2 ⟨hB,hb⟩
 have hpl:=YW hB.1.few
 rw [h1,Bq,Zo9 v s hs (by rw [h2];omega),h2];rfl
theorem ZfR (b:Za) (s:Zn) (hb:sm Y3 b) (hs:sm QX s):Zbw b s=some (tr (ZhG b s)):=by
 obtain ⟨a1,a2,a3,a4,a5⟩:=Ztr hs
 have s1:=Zp a1
 have s4:=Zp a4
 unfold Zbw
 refine Vb (YA (Zf2 b hb) (fun hB=>YA (Zn7 _ (ZyX a1) (by omega)) (fun hC=>Zf6 (fun _=>YA (Zlz _ a5) (fun _=>(?_:_=some (tr (ZeY (Zn.YE s) (fun _ c=>Zl.Place c<((places (Za.Design b)).length:Int))∧ZeY (Zn.Exceptions s) (fun _ e=>ZpM (places (Za.Design b)).length e)∧Zhk (places (Za.Design b)) ((Zn.YE s).length:Int) true (Zn.XV s)∧Zhk (places (Za.Design b)) ((Zn.YE s).length:Int) false (Zn.Y7 s))))))))) ?_
 ·have hf:=hB.1.few
  have hpl:=YW hf
  rw [Qs (YL a1) (fun _ c=>Zl.Place c<((places (Za.Design b)).length:Int)) (bad:=false) (good:=tr (ZeY (Zn.Exceptions s) (fun _ e=>ZpM (places (Za.Design b)).length e)∧Zhk (places (Za.Design b)) ((Zn.YE s).length:Int) true (Zn.XV s)∧Zhk (places (Za.Design b)) ((Zn.YE s).length:Int) false (Zn.Y7 s)))
   (fun k c hx hk _=>by
    simp only [Zdy,show (k:Int)<((Zn.YE s).length:Int) from by omega,if_true,Zu,hx,Bq,YT _ hf]
    constructor
    ·intro hh;rw [if_neg (by omega)]
    ·intro hh;rw [if_pos (by omega)])
   (fun _=>by
    simp only [Zdy,Int.lt_irrefl,if_false]
    rw [Qs (YL a4) (fun _ e=>ZpM (places (Za.Design b)).length e) (bad:=.inr false) (good:=.inr (tr (Zhk (places (Za.Design b)) ((Zn.YE s).length:Int) true (Zn.XV s)∧Zhk (places (Za.Design b)) ((Zn.YE s).length:Int) false (Zn.Y7 s))))
     (fun k e hx hk _=>by
      simp only [Zdg,show (k:Int)<((Zn.Exceptions s).length:Int) from by omega,if_true,Zu,hx,Bq,Zk2 b ⟨hB,hb⟩ e (QV a4 hx)]
      constructor
      ·intro hh;rw [if_pos (Yb hh)]
      ·intro hh;rw [if_neg (fun q=>hh ((Y9 _).1 q))])
     (fun _=>by
      simp only [Zdg,Int.lt_irrefl,if_false,Ze5 b s _ _ a2 hf s1,Ze5 b s _ _ a3 hf s1,Bq]
      by_cases q1:Zhk (places (Za.Design b)) ((Zn.YE s).length:Int) true (Zn.XV s)
      ·rw [if_pos (Yb q1)]
       congr 3
       exact YB ⟨fun q=>⟨q1,q⟩,fun q=>q.2⟩
      ·rw [if_neg (fun q=>q1 ((Y9 _).1 q)),ZQ (fun q=>q1 q.1)])]
    congr 1
    by_cases q1:ZeY (Zn.Exceptions s) (fun _ e=>ZpM (places (Za.Design b)).length e)
    ·rw [YS q1]
     congr 1
     exact YB ⟨fun q=>⟨q1,q⟩,fun q=>q.2⟩
    ·rw [YH q1,ZQ (fun q=>q1 q.1)]),ZdB]
 ·unfold ZhG ZpV
  rw [V9,V9]
  constructor
  ·rintro ⟨q1,q2,q3,q4,q5,q6,q7,q8⟩;exact ⟨q1,q2,q5,q7,q8,by omega,q6,q4⟩
  ·rintro ⟨q1,q2,q5,q7,q8,q3,q6,q4⟩;exact ⟨q1,q2,by omega,q4,q5,q6,q7,q8⟩
end Go.Proofs.YthkhedimjmkifaaGreatDoor
