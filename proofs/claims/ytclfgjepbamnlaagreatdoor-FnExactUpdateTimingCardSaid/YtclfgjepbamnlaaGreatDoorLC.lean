/-
  Plain laws: designs.
-/
import Derived.Test.YtclfgjepbamnlaaGreatDoorLB
import Derived.Test.YtclfgjepbamnlaaGreatDoorLA
namespace Go.Proofs.YtclfgjepbamnlaaGreatDoor
set_option linter.unusedVariables false
set_option linter.unusedSimpArgs false
open Go Go.Sx
theorem Zh4 {d:Zc} (h:sm Yu d):sm (.sl ZT) (Zc.Instances d)∧sm (.sl V6) (Zc.Xi d)∧sm (.sl .str) (Zc.Xf d):=by
 refine ⟨?_,?_,?_⟩
 ·first | exact h.1 | exact h.2.1 | exact h.2.2.1 | exact h.2.2.2.1
 ·first | exact h.1 | exact h.2.1 | exact h.2.2.1 | exact h.2.2.2.1
 ·first | exact h.1 | exact h.2.1 | exact h.2.2.1 | exact h.2.2.2.1
theorem Zoj {x:Zg} (h:sm ZT x):sm .str (Zg.Name x)∧sm (.sl (.int .i64)) (Zg.Xf x):=by
 refine ⟨?_,?_⟩
 ·first | exact h.1 | exact h.2.1 | exact h.2.2.1 | exact h.2.2.2.1
 ·first | exact h.1 | exact h.2.1 | exact h.2.2.1 | exact h.2.2.2.1
theorem ZxQ {x:ZP} (h:sm V6 x):sm .str (ZP.Name x):=by
 first | exact h.1 | exact h.2.1 | exact h.2.2.1 | exact h.2.2.2.1
theorem Zgb (d:Zc) (h:sm Yu d):VL d=some (tr (Zjg d)):=by
 obtain ⟨h1,h2,h3⟩:=Zh4 h
 have s1:=ZA h1
 have s2:=ZA h2
 have s3:=ZA h3
 unfold VL
 refine gather (l:=Zc.Instances d) s1 Zg.Name (fun k x o hx hk ho=>?_) ?_
 ·simp only [Ve,hk,if_true,Zn,hx,Bq]
 simp only [Ve,Int.lt_irrefl,if_false]
 have hi:(ZeA d).length=(Zc.Instances d).length:=by simp [ZeA]
 have hp:(Zcw d).length=(Zc.Xi d).length:=by simp [Zcw]
 refine gather (l:=Zc.Xi d) s2 ZP.Name (fun k x o hx hk ho=>?_) ?_
 ·simp only [Vd,hk,if_true,Zn,hx,Bq]
 simp only [Vd,Int.lt_irrefl,if_false]
 rw [show List.map ZP.Name (Zc.Xi d)=Zcw d from rfl,show List.map Zg.Name (Zc.Instances d)=ZeA d from rfl]
 simp only [hi,hp,Jt _ (show (ZeA d).length≤4611686018427387904 by omega),Jt _ (show (Zcw d).length≤4611686018427387904 by omega),Jt _ (show (Zc.Xf d).length≤4611686018427387904 by omega),Bq]
 unfold Zjg
 rw [hi,hp]
 by_cases a:(Zc.Instances d).length≤14
 ·rw [if_pos (by omega)]
  by_cases b:(Zc.Xf d).length≤30
  ·rw [if_pos (by omega)]
   by_cases c:(Zc.Xi d).length≤8
   ·rw [if_pos (by omega)]
    by_cases e:Ja (ZeA d) (Zc.Instances d).length
    ·rw [if_pos (Yc e)]
     by_cases f:Ja (Zc.Xf d) (Zc.Xf d).length
     ·rw [if_pos (Yc f)]
      congr 3
      exact QI ⟨fun q=>⟨a,b,c,e,f,q⟩,fun q=>q.2.2.2.2.2⟩
     ·rw [if_neg (by rw [Z7 f];simp),Z7 (fun q=>f q.2.2.2.2.1)]
    ·rw [if_neg (by rw [Z7 e];simp),Z7 (fun q=>e q.2.2.2.1)]
   ·rw [if_neg (by omega),Z7 (fun q=>c q.2.2.1)]
  ·rw [if_neg (by omega),Z7 (fun q=>b q.2.1)]
 ·rw [if_neg (by omega),Z7 (fun q=>a q.1)]
def Zlr (n:Nat) (s:List Int):List Int:=(List.range n).map (fun (j:Nat)=>((s.countP (fun x=>decide (x=(j:Int))):Nat):Int))
theorem ZhW (n:Nat) (s:List Int):(Zlr n s).length=n:=by simp [Zlr]
theorem Zoz (n:Nat):Zlr n []=List.replicate n 0:=by
 apply List.ext_getElem?
 intro i
 simp only [Zlr,List.countP_nil,List.getElem?_map,List.getElem?_replicate,List.getElem?_range]
 by_cases h:i<n
 ·simp [h]
 ·simp [h]
theorem Zjo {n:Nat} {s:List Int} {j:Nat} (h:j<n):(Zlr n s)[j]?=some ((s.countP (fun x=>decide (x=(j:Int))):Nat):Int):=by
 simp [Zlr,h]
theorem ZvN {n:Nat} {s:List Int} {x:Int} (h0:0≤x) (h1:x<(n:Int)):atI (Zlr n s) x=some ((s.countP (fun y=>decide (y=x)):Nat):Int):=by
 refine Qj h0 ?_
 rw [Zjo (by omega),show ((x.toNat:Nat):Int)=x by omega]
theorem Zux {n:Nat} {s:List Int} {x:Int} (h0:0≤x) (h1:x<(n:Int)):List.set (Zlr n s) (Int.toNat x) (((s.countP (fun y=>decide (y=x)):Nat):Int)+1)=Zlr n (s++[x]):=by
 apply List.ext_getElem?
 intro i
 rw [List.getElem?_set]
 by_cases hi:i<n
 ·rw [Zjo hi,Zjo hi,List.countP_append,ZhW]
  by_cases e:x.toNat=i
  ·subst e
   rw [if_pos rfl,if_pos (by omega),show ((x.toNat:Nat):Int)=x by omega]
   simp
  ·rw [if_neg e]
   have:¬x=(i:Int):=by omega
   simp [List.countP_cons,this]
 ·have h1:(Zlr n s)[i]?=none:=by rw [List.getElem?_eq_none];rw [ZhW];omega
  have h2:(Zlr n (s++[x]))[i]?=none:=by rw [List.getElem?_eq_none];rw [ZhW];omega
  rw [h1,h2]
  split
  ·split
   ·rename_i h3;rw [ZhW] at h3;omega
   ·rfl
  ·rfl
theorem Zg6 {n:Nat} {s:List Int} {x:Int} (h0:0≤x) (h1:x<(n:Int)) (hs:s.length≤1048576000) {τ:Type} (F:List Int→Option τ) :
  ((atI (Zlr n s) x).bind fun y=>F (List.set (Zlr n s) (Int.toNat x) (Wq (y+1))))=F (Zlr n (s++[x])):=by
 have h2:=List.countP_le_length (p:=fun y=>decide (y=x)) (l:=s)
 rw [ZvN h0 h1,Bq,YZ (by omega) (by omega),Zux h0 h1]
def Zab (x:Zg):Int:=(Zg.Xf x).getLastD 0
def Zpk (d:Zc) (n:Int):Prop:=0≤n∧n≤((Zc.Xf d).length:Int)-1
def ZgE (a:Zt) (d:Zc) (x:Zg):Prop :=
 (0≤Zg.Cell x∧Zg.Cell x≤((Zt.Cells a).length:Int)-1)∧(∃ c,(Zt.Cells a)[(Zg.Cell x).toNat]?=some c∧(Zg.Xf x).length=(Zi.Yy c).length)∧∀ n∈Zg.Xf x,Zpk d n
def Zis (d:Zc) (p:ZP):Prop:=(1≤ZP.Dir p∧ZP.Dir p≤2)∧Zpk d (ZP.Net p)
def Zym (d:Zc):List Int:=(Zc.Instances d).map Zab++((Zc.Xi d).filter (fun p=>decide (ZP.Dir p=1))).map ZP.Net
def Zjh (d:Zc):Prop:=∀ x∈Zlr (Zc.Xf d).length (Zym d),x=1
def JM (a:Zt) (d:Zc):Prop:=Zpl a∧Zjg d∧(∀ x∈Zc.Instances d,ZgE a d x)∧(∀ p∈Zc.Xi d,Zis d p)∧Zjh d
theorem ZgE.last {a:Zt} {d:Zc} {x:Zg} (h:ZgE a d x) (hl:Zpl a) (hsm:(Zg.Xf x).length≤1048576):atI (Zg.Xf x) (Wq (((Zg.Xf x).length:Int)-1))=some (Zab x)∧Zpk d (Zab x):=by
 obtain ⟨_,⟨c,hc,hn⟩,hall⟩:=h
 have h2:2≤(Zi.Yy c).length:=(hl.2.1 c (List.mem_of_getElem? hc)).2.1.1
 unfold Zab
 cases hN:Zg.Xf x with
 | nil=>rw [hN] at hn;simp at hn;omega
 | cons y r =>
  rw [hN] at hsm
  rw [Ziu hsm (by simp),Zn]
  have e:(y::r)[(y::r).length-1]?=some ((y::r).getLastD 0):=by
   rw [←List.getLast?_eq_getElem?,List.getLastD_eq_getLast?,List.getLast?_cons];rfl
  exact ⟨e,hall _ (by rw [hN];exact List.mem_of_getElem? e)⟩
theorem Zd3 (d:Zc) (n:Int) (h:sm Yu d):Qg d n=some (tr (Zpk d n)):=by
 have s3:=ZA (Zh4 h).2.2
 unfold Qg
 rw [show Zcl (Zc.Xf d)=some ((Zc.Xf d).length:Int) from rfl,Bq,YZ (by omega) (by omega)]
 exact Zb4 (V7 _ _ _)
theorem Zft (d:Zc) (a:Zt) (x:Zg) (hd:sm Yu d) (ha:sm Yz a) (hx:sm ZT x):Q7 d a x=some (tr (ZgE a d x)):=by
 have sa:=ZA (Zvb ha)
 unfold Q7
 rw [show J7 (Zt.Cells a)=some ((Zt.Cells a).length:Int) from rfl,Bq,YZ (by omega) (by omega)]
 refine Zd7 (P:=(0≤Zg.Cell x∧Zg.Cell x≤((Zt.Cells a).length:Int)-1)∧ZgE a d x) (YL (V7 _ _ _) (fun hw=>?_)) ⟨fun q=>q.2,fun q=>⟨q.1,q⟩⟩
 obtain ⟨c,hc1,hc2⟩:=Zpq hw.1 (show Zg.Cell x<((Zt.Cells a).length:Int) by omega)
 rw [hc1,Bq]
 refine Zd7 (P:=((Zg.Xf x).length:Int)=((Zi.Yy c).length:Int)∧∀ n∈Zg.Xf x,Zpk d n) (YK (fun he=>?_)) ?_
 ·rw [XM (XE (Zoj hx).2) (fun n=>!tr (Zpk d n)) (fun n _=>by
   unfold Xt
   show (Qg d n).bind _=_
   rw [Zd3 d n hd];rfl),Bq]
  refine ZcQ ?_
  rw [Bool.not_eq_true',List.any_eq_false]
  constructor
  ·intro q n hn
   have:=q n hn
   simp only [Bool.not_eq_true',Bool.not_eq_false] at this
   exact (Xx _).1 this
  ·intro q n hn
   simp only [Bool.not_eq_true',Bool.not_eq_false]
   exact Yc (q n hn)
 ·constructor
  ·rintro ⟨q1,q2⟩;exact ⟨hw,⟨c,hc2,by omega⟩,q2⟩
  ·rintro ⟨_,⟨c',q1,q2⟩,q3⟩
   rw [hc2] at q1;injection q1 with q1;subst q1
   exact ⟨by omega,q3⟩
theorem Zrc {d:Zc} {k:Nat} {p:ZP} (hx:(Zc.Xi d)[k]?=some p) (s:List Int) :
  s++(((Zc.Xi d).take (k+1)).filter (fun p=>decide (ZP.Dir p=1))).map ZP.Net=(if ZP.Dir p=1 then (s++(((Zc.Xi d).take k).filter (fun p=>decide (ZP.Dir p=1))).map ZP.Net)++[ZP.Net p] else s++(((Zc.Xi d).take k).filter (fun p=>decide (ZP.Dir p=1))).map ZP.Net):=by
 rw [YP hx,List.filter_append,List.map_append]
 by_cases h:ZP.Dir p=1
 ·rw [if_pos h];simp [h]
 ·rw [if_neg h];simp [h]
theorem Ztf {d:Zc} (k m:Nat):(((Zc.Instances d).take m).map Zab++(((Zc.Xi d).take k).filter (fun p=>decide (ZP.Dir p=1))).map ZP.Net).length≤(Zc.Instances d).length+(Zc.Xi d).length:=by
 have h:=List.length_filter_le (fun p=>decide (ZP.Dir p=1)) ((Zc.Xi d).take k)
 simp only [List.length_append,List.length_map,List.length_take] at h ⊢
 omega
theorem Zlu (a:Zt) (d:Zc) (ha:sm Yz a) (hd:sm Yu d):Zd9 a d=some (tr (JM a d)):=by
 obtain ⟨h1,h2,h3⟩:=Zh4 hd
 have s1:=ZA h1
 have s2:=ZA h2
 have s3:=ZA h3
 unfold Zd9
 refine Zd7 (P:=Zpl a∧Zjg d∧(Zeq (Zc.Instances d) (fun _ x=>ZgE a d x)∧(Zeq (Zc.Xi d) (fun _ p=>Zis d p)∧Zjh d))) (YL (Zks a ha) (fun hL=>YL (Zgb d hd) (fun hN=>?_))) (by rw [Zbf,Zbf];exact Iff.rfl)
 rw [Zh (by omega),Zh (by omega),Zh (by omega),Zh (by omega)]
 have:=ZhZ (l:=Zc.Instances d) (ρ:=Bool) (fun k=>((k:Int),Zlr (Zc.Xf d).length (((Zc.Instances d).take k).map Zab),())) (fun _ x=>ZgE a d x) (step:=fun v=>Jg a d v.1 v.2.1) (bad:=false) (good:=tr (Zeq (Zc.Xi d) (fun _ p=>Zis d p)∧Zjh d))
  (fun k x hx hk _=>by
   have hsx:=ZgO h1 hx
   simp only [Jg,show (k:Int)<((Zc.Instances d).length:Int) from by omega,if_true,Zn,hx,Bq,Zft d a x hd ha hsx]
   constructor
   ·intro hh
    obtain ⟨e1,e2⟩:=hh.last hL (ZA (Zoj hsx).2)
    rw [if_pos (Yc hh),e1,Bq,Zg6 e2.1 (by have:=e2.2;omega) (by simp only [List.length_map,List.length_take];omega) (F:=fun o=>some (Sum.inl (Wq ((k:Int)+1),o,()))),YP hx,List.map_append,Xo (by omega)]
    rfl
   ·intro hh;rw [if_neg (by rw [Z7 hh];simp)])
  (fun hA=>by
   simp only [Jg,Int.lt_irrefl,if_false,List.take_length]
   have:=ZhZ (l:=Zc.Xi d) (ρ:=Int×List Int×Unit ⊕ Bool) (fun k=>((k:Int),Zlr (Zc.Xf d).length ((Zc.Instances d).map Zab++(((Zc.Xi d).take k).filter (fun p=>decide (ZP.Dir p=1))).map ZP.Net),())) (fun _ p=>Zis d p) (step:=fun v=>QU d v.1 v.2.1) (bad:=.inr false) (good:=.inr (tr (Zjh d)))
    (fun k p hx hk _=>by
     have hl:=Ztf (d:=d) k (Zc.Instances d).length
     rw [List.take_length] at hl
     simp only [QU,show (k:Int)<((Zc.Xi d).length:Int) from by omega,if_true,Zn,hx,Bq,Zd3 d _ hd,Zrc hx]
     by_cases d1:ZP.Dir p=1
     ·simp only [d1,if_true]
      constructor
      ·intro hh
       rw [if_pos (Yc hh.2),Zg6 hh.2.1 (by have:=hh.2.2;omega) (by omega) (F:=fun o=>some (Sum.inl (Wq ((k:Int)+1),o,()))),Xo (by omega)]
      ·intro hh
       rw [if_neg (by rw [Z7 (fun q=>hh ⟨by omega,q⟩)];simp)]
     ·simp only [d1,if_false]
      by_cases d2:ZP.Dir p=2
      ·simp only [d2,if_true]
       constructor
       ·intro hh
        rw [if_pos (Yc hh.2),Xo (by omega)]
       ·intro hh
        rw [if_neg (by rw [Z7 (fun q=>hh ⟨by omega,q⟩)];simp)]
      ·simp only [d2,if_false]
       exact ⟨fun hh=>by have:=hh.1;omega,fun _=>trivial⟩)
    (fun _=>by
     simp only [QU,Int.lt_irrefl,if_false,List.take_length]
     rw [QZ (show Len _ by show List.length _≤_;rw [ZhW];omega) (fun n=>!decide (n=1)) (fun n _=>rfl),Bq]
     congr 3
     refine (ZnX ?_).symm
     rw [Bool.not_eq_true',List.any_eq_false]
     simp only [Bool.not_eq_true',Bool.not_eq_false,decide_eq_true_eq,decide_eq_false_iff_not,Classical.not_not]
     exact Iff.rfl)
   refine (show Zm (fun v=>QU d v.1 v.2.1) ((0:Int),Zlr (Zc.Xf d).length ((Zc.Instances d).map Zab),())=_ from (by simpa using this)).trans ?_
   by_cases hP:Zeq (Zc.Xi d) (fun _ p=>Zis d p)
   ·rw [XU hP];congr 2;exact QI ⟨fun q=>⟨hP,q⟩,fun q=>q.2⟩
   ·rw [Xu hP,Z7 (fun q=>hP q.1)])
 rw [Zh3] at this
 refine Eq.trans ?_ this
 rw [List.take_zero,List.map_nil,Zoz]
 rfl
/-
  Plain laws: designs by the reference; places.
-/
theorem ZlW (a:Zt) (d:Zc) (ha:sm Yz a) (hd:sm Yu d):Zem a d=some (tr (Zeq (Zc.Instances d) (fun _ x=>ZgE a d x)∧Zeq (Zc.Xi d) (fun _ p=>Zis d p))):=by
 obtain ⟨h1,h2,h3⟩:=Zh4 hd
 have s1:=ZA h1
 have s2:=ZA h2
 have s3:=ZA h3
 have sa:=ZA (Zvb ha)
 have e1:Wq (((Zc.Xf d).length:Int)-1)=((Zc.Xf d).length:Int)-1:=YZ (by omega) (by omega)
 have e2:Wq (((Zt.Cells a).length:Int)-1)=((Zt.Cells a).length:Int)-1:=YZ (by omega) (by omega)
 unfold Zem
 rw [QX (XE h1) (fun _ x=>ZgE a d x) (bad:=false) (good:=tr (Zeq (Zc.Xi d) (fun _ p=>Zis d p)))
  (fun k x hx hk _=>by
   have hsx:=ZgO h1 hx
   simp only [ZbK,show (k:Int)<((Zc.Instances d).length:Int) from by omega,if_true,Zn,hx,Bq,Ji,e2]
   by_cases hc:0≤Zg.Cell x∧Zg.Cell x≤((Zt.Cells a).length:Int)-1
   ·obtain ⟨c,hc1,hc2⟩:=Zpq hc.1 (show Zg.Cell x<((Zt.Cells a).length:Int) by omega)
    rw [if_pos (Yc hc),hc1,Bq]
    by_cases hp:((Zg.Xf x).length:Int)=((Zi.Yy c).length:Int)
    ·rw [if_pos hp,QX (XE (Zoj hsx).2) (fun _ n=>Zpk d n) (bad:=.inr false) (good:=.inl (Wq ((k:Int)+1),()))
      (fun j n hn hj _=>by
       simp only [ZbI,show (j:Int)<((Zg.Xf x).length:Int) from by omega,if_true,Zn,hn,Bq,Ji,e1]
       constructor
       ·intro hh;exact if_pos (Yc hh)
       ·intro hh;exact if_neg (fun q=>hh ((Xx _).1 q)))
      (fun _=>by simp only [ZbI,Int.lt_irrefl,if_false])]
     constructor
     ·intro hh;rw [XU (Zbf.2 hh.2.2)]
     ·intro hh;rw [Xu (fun q=>hh ⟨hc,⟨c,hc2,by omega⟩,Zbf.1 q⟩)]
    ·rw [if_neg hp]
     refine ⟨fun hh=>?_,fun _=>rfl⟩
     obtain ⟨_,⟨c',q1,q2⟩,_⟩:=hh
     rw [hc2] at q1;injection q1 with q1;subst q1
     exact absurd (by omega) hp
   ·rw [if_neg (by rw [Z7 hc];simp)]
    exact ⟨fun hh=>absurd hh.1 hc,fun _=>rfl⟩)
  (fun _=>by
   simp only [ZbK,Int.lt_irrefl,if_false]
   rw [QX (XE h2) (fun _ p=>Zis d p) (bad:=.inr false) (good:=.inr true)
    (fun k p hx hk _=>by
     simp only [ZbJ,show (k:Int)<((Zc.Xi d).length:Int) from by omega,if_true,Zn,hx,Bq,Ji,e1]
     by_cases hc:1≤ZP.Dir p∧ZP.Dir p≤2
     ·rw [if_pos (Yc hc)]
      constructor
      ·intro hh;exact if_pos (Yc hh.2)
      ·intro hh;exact if_neg (fun q=>hh ⟨hc,(Xx _).1 q⟩)
     ·rw [if_neg (by rw [Z7 hc];simp)]
      exact ⟨fun hh=>absurd hh.1 hc,fun _=>rfl⟩)
    (fun _=>by simp only [ZbJ,Int.lt_irrefl,if_false])]
   congr 1
   by_cases hh:Zeq (Zc.Xi d) (fun _ p=>Zis d p)
   ·rw [XU hh,Yc hh]
   ·rw [Xu hh,Z7 hh])]
 rw [Zh3]
theorem ZrE {α:Type} {l:List α} {f:α→List UInt8} (h:∀ x∈l,(f x).length≤4611686018427387904):∀ s∈l.map f,s.length≤4611686018427387904:=by
 intro s hs
 obtain ⟨x,hx,rfl⟩:=List.mem_map.1 hs
 exact h x hx
theorem ZlU (a:Zt) (d:Zc) (ha:sm Yz a) (hd:sm Yu d):Zek a d=some (tr (JM a d)):=by
 obtain ⟨h1,h2,h3⟩:=Zh4 hd
 have s1:=ZA h1
 have s2:=ZA h2
 have s3:=ZA h3
 unfold Zek
 refine Zd7 (YL (Zk6 a ha) (fun hL=>Zf1 (fun a1=>Zf1 (fun a2=>Zf1 (fun a3=>YL (ZlW a d ha hd) (fun hP=>?_))))))
  (P:=Zpl a∧¬(14:Int)<((Zc.Instances d).length:Int)∧¬(30:Int)<((Zc.Xf d).length:Int)∧¬(8:Int)<((Zc.Xi d).length:Int)∧(Zeq (Zc.Instances d) (fun _ x=>ZgE a d x)∧Zeq (Zc.Xi d) (fun _ p=>Zis d p))∧(Ja (ZeA d) (ZeA d).length∧Ja (Zcw d) (Zcw d).length∧Ja (Zc.Xf d) (Zc.Xf d).length)∧Zjh d) ?_
 ·have hi:(ZeA d).length=(Zc.Instances d).length:=by simp [ZeA]
  have hp:(Zcw d).length=(Zc.Xi d).length:=by simp [Zcw]
  refine gather (l:=Zc.Instances d) s1 Zg.Name (fun k x o hx hk ho=>?_) ?_
  ·simp only [ZbF,hk,if_true,Zn,hx,Bq]
  simp only [ZbF,Int.lt_irrefl,if_false]
  refine gather (l:=Zc.Xi d) s2 ZP.Name (fun k x o hx hk ho=>?_) ?_
  ·simp only [ZbE,hk,if_true,Zn,hx,Bq]
  simp only [ZbE,Int.lt_irrefl,if_false]
  rw [show List.map ZP.Name (Zc.Xi d)=Zcw d from rfl,show List.map Zg.Name (Zc.Instances d)=ZeA d from rfl]
  simp only [ZdV (ZeA d) (by omega) (ZrE (fun x hx=>ZfU (Zoj (Zp4 h1 hx)).1)),ZdV (Zcw d) (by omega) (ZrE (fun x hx=>ZfU (ZxQ (Zp4 h2 hx)))),ZdV (Zc.Xf d) (by omega) (fun s hs=>ZfU (Zp4 h3 hs)),Bq]
  by_cases n1:Ja (ZeA d) (ZeA d).length
  ·rw [if_pos (Yc n1)]
   by_cases n2:Ja (Zcw d) (Zcw d).length
   ·rw [if_pos (Yc n2)]
    by_cases n3:Ja (Zc.Xf d) (Zc.Xf d).length
    ·rw [if_pos (Yc n3),Zh (by omega),Zh (by omega),Zh (by omega),Zh (by omega)]
     have:=Jl (l:=Zc.Instances d) (ρ:=(List (List UInt8))×Int×Unit ⊕ ((List (List UInt8))×Int×Unit ⊕ Bool)) (fun k=>((k:Int),Zlr (Zc.Xf d).length (((Zc.Instances d).take k).map Zab),())) (step:=fun v=>Q5 d v.1 v.2.1) (good:=.inr (.inr (tr (Zjh d))))
      (fun k x hx hk=>by
       have hsx:=ZgO h1 hx
       obtain ⟨e1,e2⟩:=(hP.1 k x hx).last hL (ZA (Zoj hsx).2)
       simp only [Q5,show (k:Int)<((Zc.Instances d).length:Int) from by omega,if_true,Zn,hx,Bq]
       rw [e1,Bq,Zg6 e2.1 (by have:=e2.2;omega) (by simp only [List.length_map,List.length_take];omega) (F:=fun o=>some (Sum.inl (Wq ((k:Int)+1),o,()))),YP hx,List.map_append,Xo (by omega)]
       rfl)
      (by
       simp only [Q5,Int.lt_irrefl,if_false,List.take_length]
       have:=Jl (l:=Zc.Xi d) (ρ:=Int×List Int×Unit ⊕ ((List (List UInt8))×Int×Unit ⊕ ((List (List UInt8))×Int×Unit ⊕ Bool))) (fun k=>((k:Int),Zlr (Zc.Xf d).length ((Zc.Instances d).map Zab++(((Zc.Xi d).take k).filter (fun p=>decide (ZP.Dir p=1))).map ZP.Net),())) (step:=fun v=>Q0 d v.1 v.2.1) (good:=.inr (.inr (.inr (tr (Zjh d)))))
        (fun k p hx hk=>by
         have hl:=Ztf (d:=d) k (Zc.Instances d).length
         rw [List.take_length] at hl
         have hpo:=hP.2 k p hx
         simp only [Q0,show (k:Int)<((Zc.Xi d).length:Int) from by omega,if_true,Zn,hx,Bq,Zrc hx]
         by_cases d1:ZP.Dir p=1
         ·simp only [d1,if_true]
          rw [Zg6 hpo.2.1 (by have:=hpo.2.2;omega) (by omega) (F:=fun o=>some (Sum.inl (Wq ((k:Int)+1),o,()))),Xo (by omega)]
         ·simp only [d1,if_false]
          rw [Xo (by omega)])
        (by
         simp only [Q0,Int.lt_irrefl,if_false,List.take_length]
         rw [QX (l:=Zlr (Zc.Xf d).length ((Zc.Instances d).map Zab++((Zc.Xi d).filter (fun p=>decide (ZP.Dir p=1))).map ZP.Net)) (show List.length _≤_ by rw [ZhW];omega) (fun _ x=>x=1) (bad:=.inr (.inr (.inr (.inr false)))) (good:=.inr (.inr (.inr (.inr true))))
          (fun k x hx hk _=>by
           simp only [ZbD,show (k:Int)<((Zlr (Zc.Xf d).length ((Zc.Instances d).map Zab++((Zc.Xi d).filter (fun p=>decide (ZP.Dir p=1))).map ZP.Net)).length:Int) from by omega,if_true,Zn,hx,Bq]
           constructor
           ·intro hh;rw [if_pos hh]
           ·intro hh;rw [if_neg hh])
          (fun _=>by simp only [ZbD,Int.lt_irrefl,if_false])]
         congr 1
         have e:Zeq (Zlr (Zc.Xf d).length ((Zc.Instances d).map Zab++((Zc.Xi d).filter (fun p=>decide (ZP.Dir p=1))).map ZP.Net)) (fun _ x=>x=1)↔Zjh d:=by
          rw [Zbf];exact Iff.rfl
         by_cases hh:Zjh d
         ·rw [XU (e.2 hh),Yc hh]
         ·rw [Xu (fun q=>hh (e.1 q)),Z7 hh])
       refine (show Zm (fun v=>Q0 d v.1 v.2.1) ((0:Int),Zlr (Zc.Xf d).length ((Zc.Instances d).map Zab),())=_ from (by simpa using this)).trans ?_
       rfl)
     rw [List.take_zero,List.map_nil,Zoz] at this
     refine (show Zm (fun v=>Q5 d v.1 v.2.1) ((0:Int),List.replicate (Zc.Xf d).length 0,())=_ from this).trans ?_
     congr 3
     exact QI ⟨fun q=>⟨⟨n1,n2,n3⟩,q⟩,fun q=>q.2⟩
    ·rw [if_neg (by rw [Z7 n3];simp),Z7 (fun q=>n3 q.1.2.2)]
   ·rw [if_neg (by rw [Z7 n2];simp),Z7 (fun q=>n2 q.1.2.1)]
  ·rw [if_neg (by rw [Z7 n1];simp),Z7 (fun q=>n1 q.1.1)]
 ·unfold JM Zjg
  rw [Zbf,Zbf]
  constructor
  ·rintro ⟨q1,q2,q3,q4,⟨q5,q6⟩,⟨q7,q8,q9⟩,q10⟩
   exact ⟨q1,⟨by omega,by omega,by omega,q7,q9,q8⟩,q5,q6,q10⟩
  ·rintro ⟨q1,⟨q2,q3,q4,q7,q9,q8⟩,q5,q6,q10⟩
   exact ⟨q1,by omega,by omega,by omega,⟨q5,q6⟩,⟨q7,q8,q9⟩,q10⟩
/-
  Plain laws: places, sinks, wires.
-/
def cat {α β:Type} (f:Nat→α→List β):Nat→List α→List β
 | _,[]=>[]
 | k,x::r=>f k x++cat f (k+1) r
theorem Zkk {α β:Type} (f:Nat→α→List β):∀ (l r:List α) (m:Nat),cat f m (l++r)=cat f m l++cat f (m+l.length) r
 | [],r,m=>by simp [cat]
 | x::l,r,m=>by
  simp only [List.cons_append,cat,List.length_cons,Zkk f l r,List.append_assoc]
  rw [show m+1+l.length=m+(l.length+1) by omega]
theorem Zf4 {α β:Type} {f:Nat→α→List β} {l:List α} {k:Nat} {x:α} (hx:l[k]?=some x):cat f 0 (l.take (k+1))=cat f 0 (l.take k)++f k x:=by
 have hk:=(List.getElem?_eq_some_iff.1 hx).1
 rw [YP hx,Zkk]
 simp only [cat,Nat.zero_add,List.length_take,List.append_nil]
 rw [show min k l.length=k by omega]
theorem Qw {α β:Type} {f:Nat→α→List β} {y:β}:∀ {l:List α} {m:Nat},y∈cat f m l↔∃ (k:Nat) (x:α),l[k]?=some x∧y∈f (m+k) x
 | [],m=>by simp [cat]
 | z::r,m=>by
  simp only [cat,List.mem_append,Qw (l:=r)]
  constructor
  ·rintro (h | ⟨k,x,h1,h2⟩)
   ·exact ⟨0,z,rfl,h⟩
   ·exact ⟨k+1,x,by simpa using h1,by rw [show m+(k+1)=m+1+k by omega];exact h2⟩
  ·rintro ⟨k,x,h1,h2⟩
   cases k with
   | zero=>simp at h1;subst h1;exact .inl h2
   | succ k=>exact .inr ⟨k,x,by simpa using h1,by rw [show m+1+k=m+(k+1) by omega];exact h2⟩
theorem VQ {α β:Type} {f:Nat→α→List β} {c:Nat}:∀ {l:List α} {m:Nat},(∀ k,∀ x∈l,(f k x).length≤c)→(cat f m l).length≤c*l.length
 | [],m,_=>by simp [cat]
 | z::r,m,h=>by
  simp only [cat,List.length_append,List.length_cons]
  have h1:=h m z (by simp)
  have h2:=VQ (f:=f) (l:=r) (m:=m+1) (fun k x hx=>h k x (by simp [hx]))
  rw [Nat.mul_add];omega
theorem Xp {α β ρ:Type} {l:List α} (f:Nat→α→List β) (acc:List β) {step:List β×Int×Unit→Option ((List β×Int×Unit) ⊕ ρ)} {good:ρ}
  (hs:∀ (k:Nat) (x:α),l[k]?=some x→k<l.length→step (acc++cat f 0 (l.take k),(k:Int),())=some (.inl ((acc++cat f 0 (l.take k))++f k x,((k+1:Nat):Int),())))
  (hx:step (acc++cat f 0 l,(l.length:Int),())=some (.inr good)):Zm step (acc,(0:Int),())=some good:=by
 have:=Jl (l:=l) (ρ:=ρ) (fun k=>(acc++cat f 0 (l.take k),(k:Int),())) (step:=step) (good:=good) (fun k x hx hk=>by
  rw [hs k x hx hk,Zf4 hx,List.append_assoc]) (by simp only [List.take_length];exact hx)
 simpa [cat] using this
abbrev Pl:=Int×Int×Int×Bool×Unit
def VH (i:Nat) (x:Zg):List Pl:=cat (fun j n=>[((i:Int),(j:Int),n,decide ((j:Int)=Wq (((Zg.Xf x).length:Int)-1)),())]) 0 (Zg.Xf x)
def ZfR (j:Nat) (p:ZP):List Pl:=[((-1:Int),(j:Int),ZP.Net p,decide (ZP.Dir p=1),())]
def places (d:Zc):List Pl:=cat VH 0 (Zc.Instances d)++cat ZfR 0 (Zc.Xi d)
theorem Zse (i:Nat) (x:Zg):(VH i x).length≤(Zg.Xf x).length:=by
 have:=VQ (f:=fun j n=>[((i:Int),(j:Int),n,decide ((j:Int)=Wq (((Zg.Xf x).length:Int)-1)),())]) (c:=1) (l:=Zg.Xf x) (m:=0) (fun _ _ _=>by simp)
 simpa [VH] using this
structure Few (d:Zc):Prop where
 insts:(Zc.Instances d).length≤14
 ports:(Zc.Xi d).length≤8
 nets:∀ x∈Zc.Instances d,(Zg.Xf x).length≤5
theorem JM.few {a:Zt} {d:Zc} (h:JM a d):Few d:=by
 refine ⟨h.2.1.1,h.2.1.2.2.1,fun x hx=>?_⟩
 obtain ⟨_,⟨c,hc,hn⟩,_⟩:=h.2.2.1 x hx
 have:=(h.1.2.1 c (List.mem_of_getElem? hc)).2.1.2.1
 omega
theorem ZbQ {d:Zc} (h:Few d) (k:Nat):(cat VH 0 ((Zc.Instances d).take k)).length≤70:=by
 have:=VQ (f:=VH) (c:=5) (l:=(Zc.Instances d).take k) (m:=0) (fun i x hx=>by
  have h1:=Zse i x
  have h2:=h.nets x (List.mem_of_mem_take hx)
  omega)
 have h1:=h.insts
 rw [List.length_take] at this
 omega
theorem Zg4 {d:Zc} (h:Few d) (k:Nat):(cat ZfR 0 ((Zc.Xi d).take k)).length≤8:=by
 have:=VQ (f:=ZfR) (c:=1) (l:=(Zc.Xi d).take k) (m:=0) (fun i x hx=>by simp [ZfR])
 have h1:=h.ports
 rw [List.length_take] at this
 omega
theorem X5 {d:Zc} (h:Few d):(places d).length≤78:=by
 have h1:=ZbQ h (Zc.Instances d).length
 have h2:=Zg4 h (Zc.Xi d).length
 rw [List.take_length] at h1 h2
 unfold places
 rw [List.length_append];omega
theorem XB (d:Zc) (h:Few d):XQ d=some (places d):=by
 have h1:=h.insts
 have h2:=h.ports
 unfold XQ
 refine Xp (l:=Zc.Instances d) VH [] (fun k x hx hk=>?_) ?_
 ·have hn:=h.nets x (List.mem_of_getElem? hx)
  have hl:=ZbQ h k
  simp only [List.nil_append,VW,show (k:Int)<((Zc.Instances d).length:Int) from by omega,if_true,Zn,hx,Bq]
  refine Xp (l:=Zg.Xf x) (fun j n=>[((k:Int),(j:Int),n,decide ((j:Int)=Wq (((Zg.Xf x).length:Int)-1)),())]) _ (fun j n hj hk'=>?_) ?_
  ·have hl2:=VQ (f:=fun j n=>[((k:Int),(j:Int),n,decide ((j:Int)=Wq (((Zg.Xf x).length:Int)-1)),())]) (c:=1) (l:=(Zg.Xf x).take j) (m:=0) (fun _ _ _=>by simp)
   rw [List.length_take] at hl2
   simp only [VT,show (j:Int)<((Zg.Xf x).length:Int) from by omega,if_true,Zn,hj,Bq]
   rw [Zh (by rw [List.length_append,List.length_singleton];omega),Xo (by omega)]
  ·simp only [VT,Int.lt_irrefl,if_false]
   rw [Xo (by omega)];rfl
 ·have hl:=ZbQ h (Zc.Instances d).length
  rw [List.take_length] at hl
  simp only [List.nil_append,VW,Int.lt_irrefl,if_false]
  refine Xp (l:=Zc.Xi d) ZfR _ (fun j p hj hk'=>?_) ?_
  ·have hl2:=Zg4 h j
   simp only [VU,show (j:Int)<((Zc.Xi d).length:Int) from by omega,if_true,Zn,hj,Bq]
   rw [Zh (by rw [List.length_append,List.length_singleton];omega),Xo (by omega)];rfl
  ·simp only [VU,Int.lt_irrefl,if_false];rfl
theorem XH (d:Zc) (h:Few d):XP d=some (places d):=by
 have h1:=h.insts
 have h2:=h.ports
 unfold XP
 refine Xp (l:=Zc.Instances d) VH [] (fun k x hx hk=>?_) ?_
 ·have hn:=h.nets x (List.mem_of_getElem? hx)
  have hl:=ZbQ h k
  simp only [List.nil_append,Za2,show (k:Int)<((Zc.Instances d).length:Int) from by omega,if_true,Zn,hx,Bq]
  refine Xp (l:=Zg.Xf x) (fun j n=>[((k:Int),(j:Int),n,decide ((j:Int)=Wq (((Zg.Xf x).length:Int)-1)),())]) _ (fun j n hj hk'=>?_) ?_
  ·have hl2:=VQ (f:=fun j n=>[((k:Int),(j:Int),n,decide ((j:Int)=Wq (((Zg.Xf x).length:Int)-1)),())]) (c:=1) (l:=(Zg.Xf x).take j) (m:=0) (fun _ _ _=>by simp)
   rw [List.length_take] at hl2
   simp only [Za0,show (j:Int)<((Zg.Xf x).length:Int) from by omega,if_true,Zn,hj,Bq]
   rw [Zh (by rw [List.length_append,List.length_singleton];omega),Xo (by omega)]
  ·simp only [Za0,Int.lt_irrefl,if_false]
   rw [Xo (by omega)];rfl
 ·have hl:=ZbQ h (Zc.Instances d).length
  rw [List.take_length] at hl
  simp only [List.nil_append,Za2,Int.lt_irrefl,if_false]
  refine Xp (l:=Zc.Xi d) ZfR _ (fun j p hj hk'=>?_) ?_
  ·have hl2:=Zg4 h j
   simp only [Za1,show (j:Int)<((Zc.Xi d).length:Int) from by omega,if_true,Zn,hj,Bq]
   rw [Zh (by rw [List.length_append,List.length_singleton];omega),Xo (by omega)];rfl
  ·simp only [Za1,Int.lt_irrefl,if_false];rfl
def ZeT (net:Int) (i:Nat) (x:Pl):List Int:=if x.2.2.1=net then (if x.2.2.2.1=true then [] else [(i:Int)]) else []
def sinks (d:Zc) (net:Int):List Int:=cat (ZeT net) 0 (places d)
theorem ZdH (net:Int) (l:List Pl) (m:Nat):(cat (ZeT net) m l).length≤l.length:=by
 have:=VQ (f:=ZeT net) (c:=1) (l:=l) (m:=m) (fun i x _=>by
  unfold ZeT;split
  ·split<;>simp
  ·simp)
 omega
theorem ZaO (d:Zc) (net:Int) (h:Few d):ZaB d net=some (sinks d net):=by
 have hp:=X5 h
 unfold ZaB
 rw [XB d h,Bq]
 refine Xp (l:=places d) (ZeT net) [] (fun k x hx hk=>?_) ?_
 ·have hl:=ZdH net ((places d).take k) 0
  rw [List.length_take] at hl
  simp only [List.nil_append,Jf,show (k:Int)<((places d).length:Int) from by omega,if_true,Zn,hx,Bq,ZeT,Xo (show k≤1048576 by omega)]
  split
  ·split
   ·rw [List.append_nil]
   ·rw [Zh (by
     show (List.length _+1)*8≤_
     have:(cat (ZeT net) 0 ((places d).take k)).length≤78:=by omega
     omega)]
  ·rw [List.append_nil]
 ·simp only [List.nil_append,Jf,Int.lt_irrefl,if_false];rfl
theorem ZdW (d:Zc) (net:Int) (h:Few d):ZaJ d net=some (sinks d net):=by
 have hp:=X5 h
 unfold ZaJ
 rw [XH d h,Bq]
 refine Xp (l:=places d) (ZeT net) [] (fun k x hx hk=>?_) ?_
 ·have hl:=ZdH net ((places d).take k) 0
  rw [List.length_take] at hl
  simp only [List.nil_append,ZbL,show (k:Int)<((places d).length:Int) from by omega,if_true,Zn,hx,Bq,ZeT,Xo (show k≤1048576 by omega)]
  split
  ·split
   ·rw [List.append_nil]
   ·rw [Zh (by
     show (List.length _+1)*8≤_
     have:(cat (ZeT net) 0 ((places d).take k)).length≤78:=by omega
     omega)]
  ·rw [List.append_nil]
 ·simp only [List.nil_append,ZbL,Int.lt_irrefl,if_false];rfl
def loads (d:Zc):List Int:=((places d).filter (fun x=>!x.2.2.2.1)).map (fun x=>x.2.2.1)
theorem Zm3 (net:Int):∀ (l:List Pl) (m:Nat),(cat (ZeT net) m l).length=((l.filter (fun x=>!x.2.2.2.1)).map (fun x=>x.2.2.1)).countP (fun y=>decide (y=net))
 | [],m=>by simp [cat]
 | x::r,m=>by
  simp only [cat,List.length_append,Zm3 net r,ZeT]
  obtain ⟨a,b,n,dr,u⟩:=x
  cases dr
  ·by_cases e:n=net
   ·simp [e,Nat.add_comm]
   ·simp [e]
  ·simp
/-
  Plain laws: wires, blocks.
-/
theorem Zp3 {w:Zp} (h:sm VG w):sm (.sl (.int .i64)) (Zp.Parent w)∧sm (.sl (.int .i64)) (Zp.Res w)∧sm (.sl (.int .i64)) (Zp.Cap w)∧sm (.sl (.int .i64)) (Zp.ZdO w):=by
 refine ⟨?_,?_,?_,?_⟩
 all_goals first | exact h.1 | exact h.2.1 | exact h.2.2.1 | exact h.2.2.2.1
theorem Zk4 {b:Zd} (h:sm Yt b):sm Yz (Zd.Library b)∧sm Yu (Zd.Design b)∧sm (.sl VG) (Zd.YG b):=by
 refine ⟨?_,?_,?_⟩
 all_goals first | exact h.1 | exact h.2.1 | exact h.2.2.1 | exact h.2.2.2.1
def Zl7 (w:Zp) (k:Nat) (x:Int):Prop:=(k=0→x=-1∧(Zp.Res w)[0]?=some 0)∧(0<k→0≤x∧x≤(k:Int)-1)
def ZfC (w:Zp) (s:Int):Prop :=
 (1≤(Zp.Parent w).length∧(Zp.Parent w).length≤8)∧(Zp.Res w).length=(Zp.Parent w).length∧(Zp.Cap w).length=(Zp.Parent w).length∧((Zp.ZdO w).length:Int)=s∧
 Zeq (Zp.Parent w) (Zl7 w)∧Zf0 (Zp.Res w) 0 1000∧Zf0 (Zp.Cap w) 0 500∧Zf0 (Zp.ZdO w) 0 (((Zp.Parent w).length:Int)-1)
theorem ZeX (l:List Int) (lo hi:Int) (hl:l.length≤1048576):Y4 l lo hi=some (tr (Zf0 l lo hi)):=by
 rw [ZaC l lo hi (by omega)]
 exact ZcQ (Zjj _ _ _)
theorem ZiQ (w:Zp) (hw:sm VG w) (h1:1≤(Zp.Parent w).length) (h2:(Zp.Res w).length=(Zp.Parent w).length):Zbj w=some (tr (Zeq (Zp.Parent w) (Zl7 w))):=by
 obtain ⟨a1,a2,a3,a4⟩:=Zp3 hw
 have s1:=ZA a1
 unfold Zbj
 have hr:(Zp.Res w)[0]?=some (Zp.Res w)[0]:=List.getElem?_eq_getElem (by omega)
 rw [QX (XE a1) (Zl7 w) (bad:=false) (good:=true)
  (fun k x hx hk _=>by
   simp only [JH,show (k:Int)<((Zp.Parent w).length:Int) from by omega,if_true,Zn,hx,Bq]
   unfold Zl7
   by_cases hk0:k=0
   ·subst hk0
    rw [if_pos (by rfl),show atI (Zp.Res w) 0=some (Zp.Res w)[0] from hr,hr]
    simp only [Bq,Option.some.injEq]
    rw [if_neg (show ¬(0:Int)<((0:Nat):Int) by omega)]
    constructor
    ·intro hh
     obtain ⟨q1,q2⟩:=hh.1 trivial
     rw [if_pos q1,if_pos q2]
    ·intro hh
     by_cases q1:x=-1
     ·rw [if_pos q1,if_neg (fun q2=>hh ⟨fun _=>⟨q1,q2⟩,fun h=>by omega⟩)]
     ·rw [if_neg q1]
   ·rw [if_neg (by omega),if_pos (by omega),V7,Bq,YZ (by omega) (by omega)]
    constructor
    ·intro hh;rw [if_pos (Yc (hh.2 (by omega)))]
    ·intro hh;rw [if_neg (fun q=>hh ⟨fun h=>absurd h hk0,fun _=>(Xx _).1 q⟩)])
  (fun _=>by simp only [JH,Int.lt_irrefl,if_false]),ZhM]
theorem Znu (w:Zp) (s:Int) (hw:sm VG w):Zgd w s=some (tr (ZfC w s)):=by
 obtain ⟨a1,a2,a3,a4⟩:=Zp3 hw
 have s1:=ZA a1
 have s2:=ZA a2
 have s3:=ZA a3
 have s4:=ZA a4
 unfold Zgd
 simp only [ZaP,Bq,YZ (show (-9223372036854775808:Int)≤((Zp.Parent w).length:Int)-1 by omega) (by omega)]
 refine Zd7 (YL (V7 _ _ _) (fun q1=>YK (fun q2=>YK (fun q3=>YL (ZiQ w hw (by omega) (by omega)) (fun q4=>YL (ZeX _ _ _ s2) (fun q5=>YL (ZeX _ _ _ s3) (fun q6=>YK (fun q7=>Zb4 (ZeX _ _ _ s4))))))))) ?_
 unfold ZfC
 constructor
 ·rintro ⟨q1,q2,q3,q4,q5,q6,q7,q8⟩
  exact ⟨⟨by omega,by omega⟩,by omega,by omega,q7,q4,q5,q6,q8⟩
 ·rintro ⟨q1,q2,q3,q7,q4,q5,q6,q8⟩
  exact ⟨by omega,by omega,by omega,q4,q5,q6,q7,q8⟩
theorem Zq1 {l:List Int} {lo hi:Int}:Zf0 l lo hi↔∀ (k:Nat) (x:Int),l[k]?=some x→lo≤x∧x≤hi:=by
 unfold Zf0
 constructor
 ·intro h k x hx;exact h x (List.mem_of_getElem? hx)
 ·intro h x hx
  obtain ⟨k,hk⟩:=List.mem_iff_getElem?.1 hx
  exact h k x hk
theorem ZnP (w:Zp) (s:Int) (hw:sm VG w):Zgv w s=some (tr (ZfC w s)):=by
 obtain ⟨a1,a2,a3,a4⟩:=Zp3 hw
 have s1:=ZA a1
 have s2:=ZA a2
 have s3:=ZA a3
 have s4:=ZA a4
 have e1:Wq (((Zp.Parent w).length:Int)-1)=((Zp.Parent w).length:Int)-1:=YZ (by omega) (by omega)
 unfold Zgv
 refine Zd7 (Zf1 (fun q1=>Zf1 (fun q2=>YK (fun q3=>YK (fun q4=>YK (fun q5=>?_)))))) ?_
  (P:=¬((Zp.Parent w).length:Int)<1∧¬(8:Int)<((Zp.Parent w).length:Int)∧((Zp.Res w).length:Int)=((Zp.Parent w).length:Int)∧((Zp.Cap w).length:Int)=((Zp.Parent w).length:Int)∧((Zp.ZdO w).length:Int)=s∧
   (Zeq (Zp.Parent w) (fun k x=>(∀ c,(Zp.Cap w)[k]?=some c→0≤c∧c≤500)∧(∀ r,(Zp.Res w)[k]?=some r→0≤r∧r≤1000)∧Zl7 w k x)∧Zf0 (Zp.ZdO w) 0 (((Zp.Parent w).length:Int)-1)))
 ·rw [QX (XE a1) (fun k x=>(∀ c,(Zp.Cap w)[k]?=some c→0≤c∧c≤500)∧(∀ r,(Zp.Res w)[k]?=some r→0≤r∧r≤1000)∧Zl7 w k x) (bad:=false) (good:=tr (Zf0 (Zp.ZdO w) 0 (((Zp.Parent w).length:Int)-1)))
   (fun k x hx hk _=>by
    have hc:(Zp.Cap w)[k]?=some (Zp.Cap w)[k]:=List.getElem?_eq_getElem (by omega)
    have hr:(Zp.Res w)[k]?=some (Zp.Res w)[k]:=List.getElem?_eq_getElem (by omega)
    simp only [Zc7,show (k:Int)<((Zp.Parent w).length:Int) from by omega,if_true,Zn,hc,hr,hx,Bq,Ji,Option.some.injEq,forall_eq']
    generalize (Zp.Cap w)[k]=c at hc
    generalize (Zp.Res w)[k]=r at hr
    by_cases qc:0≤c∧c≤500
    ·rw [if_pos (Yc qc)]
     by_cases qr:0≤r∧r≤1000
     ·rw [if_pos (Yc qr)]
      unfold Zl7
      by_cases hk0:k=0
      ·subst hk0
       rw [if_pos (by rfl),hr]
       simp only [Option.some.injEq]
       rw [if_neg (show ¬(0:Int)<((0:Nat):Int) by omega)]
       constructor
       ·rintro ⟨_,_,hh⟩
        obtain ⟨q1,q2⟩:=hh.1 trivial
        rw [if_pos q1,if_pos q2]
       ·intro hh
        by_cases q1:x=-1
        ·rw [if_pos q1,if_neg (fun q2=>hh ⟨qc,qr,fun _=>⟨q1,q2⟩,fun h=>by omega⟩)]
        ·rw [if_neg q1]
      ·rw [if_neg (by omega),if_pos (by omega),YZ (show (-9223372036854775808:Int)≤(k:Int)-1 by omega) (by omega)]
       constructor
       ·intro hh;rw [if_pos (Yc (hh.2.2.2 (by omega)))]
       ·intro hh;rw [if_neg (fun q=>hh ⟨qc,qr,fun h=>absurd h hk0,fun _=>(Xx _).1 q⟩)]
     ·rw [if_neg (fun q=>qr ((Xx _).1 q))]
      exact ⟨fun hh=>absurd hh.2.1 qr,fun _=>rfl⟩
    ·rw [if_neg (fun q=>qc ((Xx _).1 q))]
     exact ⟨fun hh=>absurd hh.1 qc,fun _=>rfl⟩)
   (fun _=>by
    simp only [Zc7,Int.lt_irrefl,if_false]
    rw [QX (XE a4) (fun _ x=>0≤x∧x≤((Zp.Parent w).length:Int)-1) (bad:=.inr false) (good:=.inr true)
     (fun k x hx hk _=>by
      simp only [Zc6,show (k:Int)<((Zp.ZdO w).length:Int) from by omega,if_true,Zn,hx,Bq,Ji,e1]
      constructor
      ·intro hh;rw [if_pos (Yc hh)]
      ·intro hh;rw [if_neg (fun q=>hh ((Xx _).1 q))])
     (fun _=>by simp only [Zc6,Int.lt_irrefl,if_false])]
    congr 1
    have e:Zeq (Zp.ZdO w) (fun _ x=>0≤x∧x≤((Zp.Parent w).length:Int)-1)↔Zf0 (Zp.ZdO w) 0 (((Zp.Parent w).length:Int)-1):=Zbf
    by_cases hh:Zf0 (Zp.ZdO w) 0 (((Zp.Parent w).length:Int)-1)
    ·rw [XU (e.2 hh),Yc hh]
    ·rw [Xu (fun q=>hh (e.1 q)),Z7 hh]),Zh3]
 ·unfold ZfC
  rw [Zq1 (l:=Zp.Res w),Zq1 (l:=Zp.Cap w)]
  constructor
  ·rintro ⟨q1,q2,q3,q4,q5,q6,q7⟩
   refine ⟨⟨by omega,by omega⟩,by omega,by omega,q5,fun k x hx=>(q6 k x hx).2.2,fun k r hr=>?_,fun k c hc=>?_,q7⟩
   ·have hk:=(List.getElem?_eq_some_iff.1 hr).1
    exact (q6 k _ (List.getElem?_eq_getElem (by omega))).2.1 r hr
   ·have hk:=(List.getElem?_eq_some_iff.1 hc).1
    exact (q6 k _ (List.getElem?_eq_getElem (by omega))).1 c hc
  ·rintro ⟨q1,q2,q3,q5,q6,q7,q8,q9⟩
   exact ⟨by omega,by omega,by omega,by omega,q5,fun k x hx=>⟨fun c hc=>q8 k c hc,fun r hr=>q7 k r hr,q6 k x hx⟩,q9⟩
def Zkj (b:Zd):Prop :=
 JM (Zd.Library b) (Zd.Design b)∧(Zd.YG b).length=(Zc.Xf (Zd.Design b)).length∧Zeq (Zd.YG b) (fun k w=>ZfC w ((sinks (Zd.Design b) (k:Int)).length:Int))
theorem ZpU {a:Zt} {d:Zc} (h:JM a d) {x:Pl} (hx:x∈places d):Zpk d x.2.2.1:=by
 unfold places at hx
 rcases List.mem_append.1 hx with hx | hx
 ·obtain ⟨i,z,hi,hz⟩:=Qw.1 hx
  unfold VH at hz
  obtain ⟨j,n,hj,hn⟩:=Qw.1 hz
  simp only [List.mem_singleton] at hn
  subst hn
  exact (h.2.2.1 z (List.mem_of_getElem? hi)).2.2 n (List.mem_of_getElem? hj)
 ·obtain ⟨j,p,hj,hp⟩:=Qw.1 hx
  simp only [ZfR,List.mem_singleton] at hp
  subst hp
  exact (h.2.2.2.1 p (List.mem_of_getElem? hj)).2
theorem ZeM (b:Zd) (hb:sm Yt b):Zb1 b=some (tr (Zkj b)):=by
 obtain ⟨a1,a2,a3⟩:=Zk4 hb
 have s3:=ZA a3
 unfold Zb1
 refine Zd7 (YL (ZlU _ _ a1 a2) (fun hD=>YK (fun q1=>?_))) ?_
  (P:=JM (Zd.Library b) (Zd.Design b)∧((Zd.YG b).length:Int)=((Zc.Xf (Zd.Design b)).length:Int)∧Zeq (Zd.YG b) (fun k w=>ZfC w ((sinks (Zd.Design b) (k:Int)).length:Int)))
 ·rw [QX (XE a3) (fun k w=>ZfC w ((sinks (Zd.Design b) (k:Int)).length:Int)) (bad:=false) (good:=true)
   (fun k w hx hk _=>by
    simp only [Zcz,show (k:Int)<((Zd.YG b).length:Int) from by omega,if_true,Zn,hx,Bq,ZdW _ _ hD.few,ZnP w _ (ZgO a3 hx)]
    constructor
    ·intro hh;rw [if_pos (Yc hh)]
    ·intro hh;rw [if_neg (fun q=>hh ((Xx _).1 q))])
   (fun _=>by simp only [Zcz,Int.lt_irrefl,if_false]),ZhM]
 ·unfold Zkj
  rw [show ((Zd.YG b).length:Int)=((Zc.Xf (Zd.Design b)).length:Int)↔(Zd.YG b).length=(Zc.Xf (Zd.Design b)).length from by omega]
theorem Zsk {l:List Pl} {k:Nat} {x:Pl} (hx:l[k]?=some x) :
  (((l.take (k+1)).filter (fun x=>!x.2.2.2.1)).map (fun x=>x.2.2.1))=if x.2.2.2.1=true then (((l.take k).filter (fun x=>!x.2.2.2.1)).map (fun x=>x.2.2.1)) else (((l.take k).filter (fun x=>!x.2.2.2.1)).map (fun x=>x.2.2.1))++[x.2.2.1]:=by
 rw [YP hx,List.filter_append,List.map_append]
 by_cases h:x.2.2.2.1=true
 ·rw [if_pos h];simp [h]
 ·rw [if_neg h];simp [h]
theorem Zmj (b:Zd) (hb:sm Yt b):Ze1 b=some (tr (Zkj b)):=by
 obtain ⟨a1,a2,a3⟩:=Zk4 hb
 have s3:=ZA a3
 unfold Ze1
 refine Zd7 (YL (Zlu _ _ a1 a2) (fun hD=>YK (fun q1=>?_))) ?_
  (P:=JM (Zd.Library b) (Zd.Design b)∧((Zd.YG b).length:Int)=((Zc.Xf (Zd.Design b)).length:Int)∧Zeq (Zd.YG b) (fun k w=>ZfC w ((sinks (Zd.Design b) (k:Int)).length:Int)))
 ·rw [Zh (by omega),Zh (by omega),Zh (by omega),Zh (by omega),XB _ hD.few,Bq]
  have hpl:=X5 hD.few
  have:=Jl (l:=places (Zd.Design b)) (ρ:=Bool) (fun k=>((k:Int),Zlr (Zd.YG b).length ((((places (Zd.Design b)).take k).filter (fun x=>!x.2.2.2.1)).map (fun x=>x.2.2.1)),())) (step:=fun v=>JO b (places (Zd.Design b)) v.1 v.2.1) (good:=tr (Zeq (Zd.YG b) (fun k w=>ZfC w ((sinks (Zd.Design b) (k:Int)).length:Int))))
   (fun k x hx hk=>by
    have hn:=ZpU hD (List.mem_of_getElem? hx)
    have hl1:=List.length_filter_le (fun x:Pl=>!x.2.2.2.1) ((places (Zd.Design b)).take k)
    rw [List.length_take] at hl1
    simp only [JO,show (k:Int)<((places (Zd.Design b)).length:Int) from by omega,if_true,Zn,hx,Bq,Zsk hx]
    by_cases hd:x.2.2.2.1=true
    ·rw [if_pos hd,if_pos hd,Xo (by omega)]
    ·rw [if_neg hd,if_neg hd,Zg6 hn.1 (by have:=hn.2;show x.2.2.1<_;omega) (by rw [List.length_map];omega) (F:=fun o=>some (Sum.inl (Wq ((k:Int)+1),o,()))),Xo (by omega)])
   (by
    simp only [JO,Int.lt_irrefl,if_false,List.take_length]
    rw [QX (XE a3) (fun k w=>ZfC w ((sinks (Zd.Design b) (k:Int)).length:Int)) (bad:=.inr false) (good:=.inr true)
     (fun k w hx hk _=>by
      have hc:(sinks (Zd.Design b) (k:Int)).length=_:=Zm3 (k:Int) (places (Zd.Design b)) 0
      simp only [Zcf,show (k:Int)<((Zd.YG b).length:Int) from by omega,if_true,Zn,hx,Bq]
      rw [Zjo hk,Bq,Znu w _ (ZgO a3 hx),Bq,hc]
      constructor
      ·intro hh;rw [if_pos (Yc hh)]
      ·intro hh;rw [if_neg (fun q=>hh ((Xx _).1 q))])
     (fun _=>by simp only [Zcf,Int.lt_irrefl,if_false])]
    congr 1
    by_cases hh:Zeq (Zd.YG b) (fun k w=>ZfC w ((sinks (Zd.Design b) (k:Int)).length:Int))
    ·rw [XU hh,Yc hh]
    ·rw [Xu hh,Z7 hh])
  rw [List.take_zero,List.filter_nil,List.map_nil,Zoz] at this
  exact this
 ·unfold Zkj
  rw [show ((Zd.YG b).length:Int)=((Zc.Xf (Zd.Design b)).length:Int)↔(Zd.YG b).length=(Zc.Xf (Zd.Design b)).length from by omega]
structure Qm (b:Zd):Prop where
 ok:Zkj b
 sm:sm Yt b
/-
  Plain laws: what a place asks of its net; loads are always told.
-/
theorem Zi4 {α τ ρ:Type} {l:List α} (I:Nat→τ→Prop) (Q:ρ→Prop) {step:τ→Option (τ ⊕ ρ)} {v:τ} (h0:I 0 v)
  (hs:∀ (k:Nat) (x:α) (v:τ),l[k]?=some x→k<l.length→I k v→∃ v',step v=some (.inl v')∧I (k+1) v')
  (hx:∀ v,I l.length v→∃ r,step v=some (.inr r)∧Q r):∃ r,Zm step v=some r∧Q r :=
 VE l.length I Q h0 (fun k v hk hI=>.inl (hs k l[k] v (List.getElem?_eq_getElem hk) hk hI)) hx
theorem Zh6 {α:Type} {l:List α} {i:Int} (h0:0≤i) (h1:i<(l.length:Int)):∃ x,atI l i=some x∧x∈l:=by
 obtain ⟨x,h2,h3⟩:=Zpq h0 h1
 exact ⟨x,h2,List.mem_of_getElem? h3⟩
theorem ZtL {a:Zt} {d:Zc} (h:JM a d) {x:Pl} (hx:x∈places d):∃ n,QL d a x=some n:=by
 unfold QL
 split
 ·exact ⟨_,rfl⟩
 ·rename_i hneg
  unfold places at hx
  rcases List.mem_append.1 hx with hx | hx
  ·obtain ⟨i,z,hi,hz⟩:=Qw.1 hx
   unfold VH at hz
   obtain ⟨j,n,hj,hn⟩:=Qw.1 hz
   simp only [List.mem_singleton] at hn
   subst hn
   rw [Nat.zero_add] at hneg
   obtain ⟨hc,⟨c,hc1,hc2⟩,_⟩:=h.2.2.1 z (List.mem_of_getElem? hi)
   have hj2:=(List.getElem?_eq_some_iff.1 hj).1
   simp only [YD.instance,YD.pin,Nat.zero_add,Zn,hi,Bq]
   rw [Qj hc.1 hc1,Bq]
   have hp:(Zi.Yy c)[j]?=some (Zi.Yy c)[j]:=List.getElem?_eq_getElem (by omega)
   rw [hp,Bq]
   exact ⟨_,rfl⟩
  ·obtain ⟨j,p,hj,hp⟩:=Qw.1 hx
   simp only [ZfR,List.mem_singleton] at hp
   subst hp
   exact absurd (by show (-1:Int)<0;omega) hneg
theorem ZhH {d:Zc} {net y:Int} (h:y∈sinks d net):0≤y∧y<((places d).length:Int):=by
 obtain ⟨k,x,hk,hy⟩:=Qw.1 h
 have:=(List.getElem?_eq_some_iff.1 hk).1
 unfold ZeT at hy
 split at hy
 ·split at hy
  ·cases hy
  ·simp only [List.mem_singleton] at hy;omega
 ·cases hy
theorem ZfC.par {w:Zp} {s:Int} (h:ZfC w s) {k:Nat} {x:Int} (hx:(Zp.Parent w)[k]?=some x) (hk:0<k):0≤x∧x≤(k:Int)-1:=(h.2.2.2.2.1 k x hx).2 hk
theorem Zj4 {b:Zd} (h:Qm b) {k:Nat} {w:Zp} (hw:(Zd.YG b)[k]?=some w):∃ r,Yh b (k:Int)=some r∧r.length=(Zp.Parent w).length:=by
 have hW:=h.ok.2.2 k w hw
 have hD:=h.ok.1
 have hf:=hD.few
 obtain ⟨⟨l1,l8⟩,lr,lc,ls,ht,ar,ac,asn⟩:=hW
 have hpl:=X5 hf
 have hsl:=ZdH (k:Int) (places (Zd.Design b)) 0
 have hsl2:(sinks (Zd.Design b) (k:Int)).length≤78:=by unfold sinks;omega
 unfold Yh
 rw [Zn,hw,Bq]
 unfold Xv
 rw [Zh (by simp;omega),Bq,XB _ hf,Bq,ZaO _ _ hf,Bq]
 refine Zi4 (l:=sinks (Zd.Design b) (k:Int)) (fun m v=>v.1=(m:Int)∧v.2.1.length=(Zp.Parent w).length) _ ⟨rfl,by simp;omega⟩ ?_ ?_
 ·rintro m y ⟨i,l,⟨⟩⟩ hy hm ⟨hi,hl⟩
  simp only at hi hl
  subst hi
  have hz:(Zp.ZdO w)[m]?=some (Zp.ZdO w)[m]:=List.getElem?_eq_getElem (by omega)
  generalize (Zp.ZdO w)[m]=z at hz
  have hz2:=asn z (List.mem_of_getElem? hz)
  obtain ⟨q,hq1,_⟩:=Zh6 (l:=l) hz2.1 (by omega)
  obtain ⟨hy1,hy2⟩:=ZhH (List.mem_of_getElem? hy)
  obtain ⟨p,hp1,hp2⟩:=Zh6 hy1 hy2
  obtain ⟨c,hc⟩:=ZtL hD hp2
  simp only [YH,show (m:Int)<((sinks (Zd.Design b) (k:Int)).length:Int) from by omega,if_true,Zn,hy,hz,Bq,hq1,hp1,hc]
  exact ⟨_,rfl,by rw [Xo (by omega)],by simp [hl]⟩
 ·rintro ⟨i,l,⟨⟩⟩ ⟨hi,hl⟩
  simp only at hi hl
  subst hi
  simp only [YH,Int.lt_irrefl,if_false]
  have:=ZfW (σ:=Int×List Int×Unit) (ρ:=(Int×List Int×Unit) ⊕ List Int) (step:=fun v=>Xg w v.1 v.2.1) (fun v=>(∃ j:Nat,v.1=(j:Int)∧j<(Zp.Parent w).length)∧v.2.1.length=(Zp.Parent w).length) (fun v=>v.1.toNat) (fun r=>∃ r',r=.inr r'∧r'.length=(Zp.Parent w).length) (v:=(Wq ((l.length:Int)-1),l,()))
   ⟨⟨l.length-1,by show Wq _=_;rw [Ziu (by omega) (by omega)],by omega⟩,hl⟩
   (by
    rintro ⟨i,l,⟨⟩⟩ ⟨⟨j,hj,hj2⟩,hl⟩
    simp only at hj hl
    subst hj
    simp only [Xg]
    by_cases h0:(0:Int)<(j:Int)
    ·rw [if_pos h0]
     have hp:(Zp.Parent w)[j]?=some (Zp.Parent w)[j]:=List.getElem?_eq_getElem (by omega)
     generalize (Zp.Parent w)[j]=p at hp
     have hp2:=(ht j p hp).2 (by omega)
     obtain ⟨q,hq1,_⟩:=Zh6 (l:=l) hp2.1 (by omega)
     have hl2:l[j]?=some l[j]:=List.getElem?_eq_getElem (by omega)
     simp only [Zn,hp,Bq,hq1,hl2]
     left
     refine ⟨_,rfl,⟨⟨j-1,by rw [Ziu (by omega) (by omega)],by omega⟩,by simp [hl]⟩,?_⟩
     show (Wq ((j:Int)-1)).toNat<((j:Int)).toNat
     rw [Ziu (by omega) (by omega)];omega
    ·rw [if_neg h0]
     right
     exact ⟨_,rfl,_,rfl,hl⟩)
  obtain ⟨r,h1,r',rfl,h3⟩:=this
  exact ⟨r',h1,h3⟩
/-
  Plain laws: the place that drives a net.
-/
theorem Zlg {α:Type} {p:α→Bool} {l:List α} {k:Nat} {x:α} (hx:l[k]?=some x) (hp:p x=true) (hf:∀ (j:Nat) (y:α),j<k→l[j]?=some y→p y=false):ZbR p l=(k:Int):=by
 have hk:=(List.getElem?_eq_some_iff.1 hx)
 have:l.findIdx? p=some k:=by
  rw [List.findIdx?_eq_some_iff_getElem]
  refine ⟨hk.1,by rw [hk.2];exact hp,fun j hj=>?_⟩
  have:=hf j (l[j]'(by have:=hk.1;omega)) hj (List.getElem?_eq_getElem _)
  simp [this]
 unfold ZbR
 rw [this]
theorem Zk7 (d:Zc) (n:Int) (h:Few d):Zba d n=some (ZbR (fun x:Pl=>decide (x.2.2.1=n)&&x.2.2.2.1) (places d)):=by
 have hpl:=X5 h
 unfold Zba
 rw [XH d h,Bq]
 refine JC (out:=fun i=>i) (show Len (places d) by show List.length _≤_;omega) (fun k x hx=>?_) ?_
 ·have hk:=(List.getElem?_eq_some_iff.1 hx).1
  simp only [ZaZ,show (k:Int)<((places d).length:Int) from by omega,if_true,Zn,hx,Bq,Bool.and_eq_true,decide_eq_true_eq]
  split
  ·rename_i e1
   split
   ·rename_i e2;rw [if_pos ⟨e1,e2⟩]
   ·rename_i e2;rw [if_neg (fun q=>e2 q.2)]
  ·rename_i e1;rw [if_neg (fun q=>e1 q.1)]
 ·simp only [ZaZ,Int.lt_irrefl,if_false]
theorem Zqx {i:Nat} {x:Zg} {a:Zt} {d:Zc} (hl:Zpl a) (h:ZgE a d x) (hsm:(Zg.Xf x).length≤1048576):((VH i x).filter (fun y=>y.2.2.2.1)).map (fun y=>y.2.2.1)=[Zab x]:=by
 obtain ⟨_,⟨c,hc,hn⟩,_⟩:=h
 have h2:2≤(Zi.Yy c).length:=(hl.2.1 c (List.mem_of_getElem? hc)).2.1.1
 unfold VH Zab
 rw [Ziu hsm (by omega)]
 generalize hN:Zg.Xf x=l
 rw [hN] at hn
 have hne:l.length≠0:=by omega
 have gen:∀ (l:List Int) (m n:Nat),m+l.length=n+1→l.length≠0→((cat (fun j n'=>[((i:Int),(j:Int),n',decide ((j:Int)=((n:Nat):Int)),())]) m l).filter (fun y:Pl=>y.2.2.2.1)).map (fun y=>y.2.2.1)=[l.getLastD 0]:=by
  intro l
  induction l with
  | nil=>intro m n _ h0;simp at h0
  | cons y r ih =>
   intro m n hm _
   by_cases hr:r=[]
   ·subst hr
    simp only [List.length_cons,List.length_nil] at hm
    have:(m:Int)=(n:Int):=by omega
    simp [cat,this]
   ·have hrl:r.length≠0:=fun e=>hr (List.eq_nil_of_length_eq_zero e)
    simp only [List.length_cons] at hm
    have hmn:¬(m:Int)=(n:Int):=by omega
    have:=ih (m+1) n (by omega) hrl
    simp only [cat,List.cons_append,List.nil_append]
    rw [List.filter_cons_of_neg (by simp [hmn]),this]
    cases r with
    | nil=>exact absurd rfl hr
    | cons z q=>simp [List.getLastD_cons]
 exact gen l 0 (l.length-1) (by omega) hne
theorem Zqy (j:Nat) (p:ZP):((ZfR j p).filter (fun y=>y.2.2.2.1)).map (fun y=>y.2.2.1)=if ZP.Dir p=1 then [ZP.Net p] else []:=by
 unfold ZfR
 by_cases h:ZP.Dir p=1
 ·simp [h]
 ·simp [h]
theorem Zr9 {a:Zt} {d:Zc} (h:JM a d) (hsm:sm Yu d):((places d).filter (fun y=>y.2.2.2.1)).map (fun y=>y.2.2.1)=Zym d:=by
 unfold places Zym
 rw [List.filter_append,List.map_append]
 congr 1
 ·have:∀ (l:List Zg) (m:Nat),(∀ x∈l,ZgE a d x∧(Zg.Xf x).length≤1048576)→((cat VH m l).filter (fun y=>y.2.2.2.1)).map (fun y=>y.2.2.1)=l.map Zab:=by
   intro l
   induction l with
   | nil=>intro m _;rfl
   | cons x r ih =>
    intro m hl
    have hx:=hl x (by simp)
    simp only [cat,List.filter_append,List.map_append,List.map_cons]
    rw [Zqx h.1 hx.1 hx.2,ih (m+1) (fun y hy=>hl y (by simp [hy]))]
    rfl
  exact this _ 0 (fun x hx=>⟨h.2.2.1 x hx,ZA (Zoj (Zp4 (Zh4 hsm).1 hx)).2⟩)
 ·have:∀ (l:List ZP) (m:Nat),((cat ZfR m l).filter (fun y=>y.2.2.2.1)).map (fun y=>y.2.2.1)=(l.filter (fun p=>decide (ZP.Dir p=1))).map ZP.Net:=by
   intro l
   induction l with
   | nil=>intro m;rfl
   | cons p r ih =>
    intro m
    simp only [cat,List.filter_append,List.map_append]
    rw [Zqy,ih (m+1)]
    by_cases hd:ZP.Dir p=1
    ·simp [hd]
    ·simp [hd]
  exact this _ 0
theorem Zn7 {α:Type} {p:α→Bool} {l:List α} {i j:Nat} {a b:α} (hij:i<j) (ha:l[i]?=some a) (hb:l[j]?=some b) (pa:p a=true) (pb:p b=true):2≤l.countP p:=by
 have e:l.countP p=(l.take j).countP p+(l.drop j).countP p:=by rw [←List.countP_append,List.take_append_drop]
 have h1:0<(l.take j).countP p:=List.countP_pos_iff.2 ⟨a,List.mem_iff_getElem?.2 ⟨i,by rw [List.getElem?_take,if_pos hij];exact ha⟩,pa⟩
 have h2:0<(l.drop j).countP p:=List.countP_pos_iff.2 ⟨b,List.mem_iff_getElem?.2 ⟨0,by rw [List.getElem?_drop];exact hb⟩,pb⟩
 omega
def Zr8 (n:Int) (x:Pl):Bool:=decide (x.2.2.1=n)&&x.2.2.2.1
def ZgU (d:Zc) (n:Int):Int:=ZbR (Zr8 n) (places d)
theorem Ztd {a:Zt} {d:Zc} (h:JM a d) (hsm:sm Yu d) {v:Nat} (hv:v<(Zc.Xf d).length):(places d).countP (Zr8 (v:Int))=1:=by
 have h1:=h.2.2.2.2 _ (List.mem_of_getElem? (Zjo (s:=Zym d) hv))
 rw [←Zr9 h hsm,List.countP_map,List.countP_filter] at h1
 have e:(places d).countP (Zr8 (v:Int))=(places d).countP (fun y=>((fun x=>decide (x=(v:Int)))∘fun y:Pl=>y.2.2.1) y&&y.2.2.2.1):=rfl
 rw [e]
 omega
theorem Zte {a:Zt} {d:Zc} (h:JM a d) (hsm:sm Yu d) {v:Nat} (hv:v<(Zc.Xf d).length) :
  ∃ (q:Nat) (y:Pl),(places d)[q]?=some y∧Zr8 (v:Int) y=true∧ZgU d (v:Int)=(q:Int)∧∀ (p:Nat) (z:Pl),(places d)[p]?=some z→Zr8 (v:Int) z=true→p=q:=by
 have hc:=Ztd h hsm hv
 obtain ⟨y,hy,hp⟩:=List.countP_pos_iff.1 (show 0<(places d).countP (Zr8 (v:Int)) by omega)
 obtain ⟨q,hq⟩:=List.mem_iff_getElem?.1 hy
 have uniq:∀ (p:Nat) (z:Pl),(places d)[p]?=some z→Zr8 (v:Int) z=true→p=q:=by
  intro p z hz hpz
  rcases Nat.lt_trichotomy p q with hlt | he | hlt
  ·have:=Zn7 hlt hz hq hpz hp;omega
  ·exact he
  ·have:=Zn7 hlt hq hz hp hpz;omega
 refine ⟨q,y,hq,hp,Zlg hq hp (fun j z hj hz=>?_),uniq⟩
 cases hb:Zr8 (v:Int) z
 ·rfl
 ·have:=uniq j z hz hb;omega
/-
  Plain laws: the view is always made.
-/
theorem Zma {b:Zd} (h:Qm b) {k:Nat} {w:Zp} (hw:(Zd.YG b)[k]?=some w):∃ r,YT b (k:Int)=some r∧r.length≤1048576:=by
 have hW:=h.ok.2.2 k w hw
 obtain ⟨⟨l1,l8⟩,lr,lc,ls,ht,ar,ac,asn⟩:=hW
 obtain ⟨nl,hnl,hnl2⟩:=Zj4 h hw
 have hsm:=ZA (Zp3 (ZgO (Zk4 h.sm).2.2 hw)).2.2.2
 have hnd:∃ r,Xz b (k:Int)=some r∧r.length=(Zp.Parent w).length:=by
  unfold Xz
  rw [Zn,hw,Bq,hnl,Bq,Zh (by omega),Zh (by omega),Zh (by omega),Zh (by omega)]
  refine VE ((Zp.Parent w).length-1) (fun m v=>v.1=((m+1:Nat):Int)∧v.2.1.length=(Zp.Parent w).length) _ ⟨rfl,by simp [hnl2]⟩ ?_ ?_
  ·rintro m ⟨i,l,⟨⟩⟩ hm ⟨hi,hl⟩
   simp only at hi hl
   subst hi
   left
   have hp:(Zp.Parent w)[m+1]?=some (Zp.Parent w)[m+1]:=List.getElem?_eq_getElem (by omega)
   generalize (Zp.Parent w)[m+1]=p at hp
   have hp2:=(ht (m+1) p hp).2 (by omega)
   obtain ⟨q,hq1,_⟩:=Zh6 (l:=l) hp2.1 (by omega)
   have hr:(Zp.Res w)[m+1]?=some (Zp.Res w)[m+1]:=List.getElem?_eq_getElem (by omega)
   have hn:nl[m+1]?=some nl[m+1]:=List.getElem?_eq_getElem (by omega)
   have hl2:l[m+1]?=some l[m+1]:=List.getElem?_eq_getElem (by omega)
   simp only [Y1,show ((m+1:Nat):Int)<(l.length:Int) from by omega,if_true,Zn,hp,hq1,hr,hn,hl2,Bq]
   exact ⟨_,rfl,by rw [Xo (by omega)],by simp [hl]⟩
  ·rintro ⟨i,l,⟨⟩⟩ ⟨hi,hl⟩
   simp only at hi hl
   subst hi
   simp only [Y1,show ¬(((Zp.Parent w).length-1+1:Nat):Int)<(l.length:Int) from by omega,if_false]
   exact ⟨_,rfl,hl⟩
 obtain ⟨nd,hnd,hnd2⟩:=hnd
 unfold YT
 rw [hnd,Bq,Zn,hw,Bq]
 refine Zi4 (l:=Zp.ZdO w) (fun m v=>v.1.length=m∧v.2.1=(m:Int)) _ ⟨rfl,rfl⟩ ?_ ?_
 ·rintro m y ⟨o,i,⟨⟩⟩ hy hm ⟨ho,hi⟩
  simp only at hi ho
  subst hi
  have hz2:=asn y (List.mem_of_getElem? hy)
  obtain ⟨q,hq1,_⟩:=Zh6 (l:=nd) hz2.1 (by omega)
  simp only [YV,show (m:Int)<((Zp.ZdO w).length:Int) from by omega,if_true,Zn,hy,hq1,Bq]
  rw [Zh (by simp;omega)]
  exact ⟨_,rfl,by simp [ho],by rw [Xo (by omega)]⟩
 ·rintro ⟨o,i,⟨⟩⟩ ⟨ho,hi⟩
  simp only at hi ho
  subst hi
  simp only [YV,Int.lt_irrefl,if_false]
  exact ⟨_,rfl,by omega⟩
/-
  Plain laws: how great loads are.
-/
def Zkw:List Int→Int
 | []=>0
 | x::r=>x+Zkw r
theorem Zmt:∀ l r:List Int,Zkw (l++r)=Zkw l+Zkw r
 | [],r=>by show Zkw r=0+Zkw r;omega
 | x::l,r=>by
  show x+Zkw (l++r)=x+Zkw l+Zkw r
  rw [Zmt l r];omega
theorem ZoS:∀ {l:List Int} {i:Nat} {x:Int} (c:Int),l[i]?=some x→Zkw (l.set i (x+c))=Zkw l+c
 | [],i,x,c,h=>by simp at h
 | y::l,0,x,c,h=>by
  have:y=x:=by simpa using h
  subst this
  show y+c+Zkw l=y+Zkw l+c
  omega
 | y::l,i+1,x,c,h=>by
  show y+Zkw (l.set i (x+c))=y+Zkw l+c
  rw [ZoS c (by simpa using h)]
  omega
theorem ZoR:∀ {l:List Int},(∀ x∈l,0≤x)→0≤Zkw l∧∀ x∈l,x≤Zkw l
 | [],_=>⟨Int.le_refl _,fun x hx=>by cases hx⟩
 | y::l,h=>by
  obtain ⟨h1,h2⟩:=ZoR (l:=l) fun x hx=>h x (List.mem_cons_of_mem _ hx)
  have hy:=h y List.mem_cons_self
  refine ⟨by show 0≤y+Zkw l;omega,fun x hx=>?_⟩
  show x≤y+Zkw l
  rcases List.mem_cons.1 hx with rfl | hx
  ·omega
  ·have:=h2 x hx;omega
theorem Ztw:∀ {l:List Int} {c:Int},(∀ x∈l,x≤c)→Zkw l≤(l.length:Int)*c
 | [],c,_=>by show (0:Int)≤((0:Nat):Int)*c;simp
 | y::l,c,h=>by
  have h1:=Ztw (l:=l) (c:=c) fun x hx=>h x (List.mem_cons_of_mem _ hx)
  have h2:=h y List.mem_cons_self
  show y+Zkw l≤((l.length+1:Nat):Int)*c
  rw [show ((l.length+1:Nat):Int)=(l.length:Int)+1 by omega,Int.add_mul,Int.one_mul]
  omega
theorem ZkW {l:List Int} {i:Nat} {x y:Int} (h:y∈l.set i x):y=x∨y∈l:=(List.mem_or_eq_of_mem_set h).symm
theorem ZpT {a:Zt} {d:Zc} (h:JM a d) {x:Pl} (hx:x∈places d):∃ n,QL d a x=some n∧0≤n∧n≤500:=by
 unfold QL
 split
 ·exact ⟨_,rfl,by omega,by omega⟩
 ·rename_i hneg
  unfold places at hx
  rcases List.mem_append.1 hx with hx | hx
  ·obtain ⟨i,z,hi,hz⟩:=Qw.1 hx
   unfold VH at hz
   obtain ⟨j,n,hj,hn⟩:=Qw.1 hz
   simp only [List.mem_singleton] at hn
   subst hn
   rw [Nat.zero_add] at hneg
   obtain ⟨hc,⟨c,hc1,hc2⟩,_⟩:=h.2.2.1 z (List.mem_of_getElem? hi)
   have hj2:=(List.getElem?_eq_some_iff.1 hj).1
   have hpins:=(h.1.2.1 c (List.mem_of_getElem? hc1)).2.1
   simp only [YD.instance,YD.pin,Nat.zero_add,Zn,hi,Bq]
   rw [Qj hc.1 hc1,Bq]
   have hp:(Zi.Yy c)[j]?=some (Zi.Yy c)[j]:=List.getElem?_eq_getElem (by omega)
   rw [hp,Bq]
   have hb:=(hpins.2.2.2 j _ hp).1
   exact ⟨_,rfl,hb.1,hb.2⟩
  ·obtain ⟨j,p,hj,hp⟩:=Qw.1 hx
   simp only [ZfR,List.mem_singleton] at hp
   subst hp
   exact absurd (by show (-1:Int)<0;omega) hneg
theorem ZpO {b:Zd} (h:Qm b) {k:Nat} {w:Zp} (hw:(Zd.YG b)[k]?=some w):∃ r,Yh b (k:Int)=some r∧r.length=(Zp.Parent w).length∧∀ x∈r,0≤x∧x≤43000:=by
 have hW:=h.ok.2.2 k w hw
 have hD:=h.ok.1
 have hf:=hD.few
 obtain ⟨⟨l1,l8⟩,lr,lc,ls,ht,ar,ac,asn⟩:=hW
 have hpl:=X5 hf
 have hsl:=ZdH (k:Int) (places (Zd.Design b)) 0
 have hsl2:(sinks (Zd.Design b) (k:Int)).length≤78:=by unfold sinks;omega
 have hc0:Zkw (Zp.Cap w)≤4000:=by
  have:=Ztw (l:=Zp.Cap w) (c:=500) fun x hx=>(ac x hx).2
  omega
 unfold Yh
 rw [Zn,hw,Bq]
 unfold Xv
 rw [Zh (by simp;omega),Bq,XB _ hf,Bq,ZaO _ _ hf,Bq,List.nil_append]
 refine Zi4 (l:=sinks (Zd.Design b) (k:Int)) (fun m v=>v.1=(m:Int)∧v.2.1.length=(Zp.Parent w).length∧(∀ x∈v.2.1,0≤x)∧Zkw v.2.1≤4000+(m:Int)*500) _ ⟨rfl,by simp;omega,fun x hx=>(ac x hx).1,by simp only;omega⟩ ?_ ?_
 ·rintro m y ⟨i,l,⟨⟩⟩ hy hm ⟨hi,hl,hnn,hsum⟩
  simp only at hi hl hnn hsum
  subst hi
  have hz:(Zp.ZdO w)[m]?=some (Zp.ZdO w)[m]:=List.getElem?_eq_getElem (by omega)
  generalize (Zp.ZdO w)[m]=z at hz
  have hz2:=asn z (List.mem_of_getElem? hz)
  obtain ⟨q,hq1,hq2⟩:=Zh6 (l:=l) hz2.1 (by omega)
  obtain ⟨hy1,hy2⟩:=ZhH (List.mem_of_getElem? hy)
  obtain ⟨p,hp1,hp2⟩:=Zh6 hy1 hy2
  obtain ⟨c,hc,c0,c5⟩:=ZpT hD hp2
  have hq0:=hnn q hq2
  have hqs:=(ZoR hnn).2 q hq2
  have hq3:l[z.toNat]?=some q:=by
   unfold atI at hq1
   rw [if_pos hz2.1] at hq1
   exact hq1
  simp only [YH,show (m:Int)<((sinks (Zd.Design b) (k:Int)).length:Int) from by omega,if_true,Zn,hy,hz,Bq,hq1,hp1,hc]
  rw [YZ (n:=q+c) (by omega) (by omega)]
  refine ⟨_,rfl,by rw [Xo (by omega)],by simp [hl],fun x hx=>?_,?_⟩
  ·rcases ZkW hx with rfl | hx
   ·omega
   ·exact hnn x hx
  ·simp only
   rw [ZoS c hq3]
   omega
 ·rintro ⟨i,l,⟨⟩⟩ ⟨hi,hl,hnn,hsum⟩
  simp only at hi hl hnn hsum
  subst hi
  simp only [YH,Int.lt_irrefl,if_false]
  have hT:Zkw l≤43000:=by omega
  have hall:∀ x∈l,0≤x∧x≤43000:=fun x hx=>⟨hnn x hx,by have:=(ZoR hnn).2 x hx;omega⟩
  have:=ZfW (σ:=Int×List Int×Unit) (ρ:=(Int×List Int×Unit) ⊕ List Int) (step:=fun v=>Xg w v.1 v.2.1) (fun v=>(∃ j:Nat,v.1=(j:Int)∧j<(Zp.Parent w).length∧Zkw (v.2.1.take (j+1))≤43000)∧v.2.1.length=(Zp.Parent w).length∧∀ x∈v.2.1,0≤x∧x≤43000) (fun v=>v.1.toNat) (fun r=>∃ r',r=.inr r'∧r'.length=(Zp.Parent w).length∧∀ x∈r',0≤x∧x≤43000) (v:=(Wq ((l.length:Int)-1),l,()))
   ⟨⟨l.length-1,by show Wq _=_;rw [Ziu (by omega) (by omega)],by omega,by simp only;rw [List.take_of_length_le (by omega)];exact hT⟩,hl,hall⟩
   (by
    rintro ⟨i,l,⟨⟩⟩ ⟨⟨j,hj,hj2,hjs⟩,hl,hall⟩
    simp only at hj hl hjs hall
    subst hj
    simp only [Xg]
    by_cases h0:(0:Int)<(j:Int)
    ·rw [if_pos h0]
     have hp:(Zp.Parent w)[j]?=some (Zp.Parent w)[j]:=List.getElem?_eq_getElem (by omega)
     generalize (Zp.Parent w)[j]=p at hp
     have hp2:=(ht j p hp).2 (by omega)
     obtain ⟨q,hq1,hq2⟩:=Zh6 (l:=l) hp2.1 (by omega)
     have hq3:l[p.toNat]?=some q:=by
      unfold atI at hq1
      rw [if_pos hp2.1] at hq1
      exact hq1
     have hl2:l[j]?=some l[j]:=List.getElem?_eq_getElem (by omega)
     generalize l[j]=y at hl2
     have hy:=hall y (List.mem_of_getElem? hl2)
     have hq:=hall q hq2
     simp only [Zn,hp,Bq,hq1,hl2]
     rw [YZ (n:=q+y) (by omega) (by omega)]
     have hqt:(l.take j)[p.toNat]?=some q:=by rw [List.getElem?_take,if_pos (by omega)];exact hq3
     have hnew:Zkw ((l.set p.toNat (q+y)).take j)≤43000:=by
      rw [List.take_set,ZoS y hqt]
      rw [YP hl2,Zmt] at hjs
      have:Zkw [y]=y:=by show y+0=y;omega
      omega
     have hnn2:∀ x∈(l.set p.toNat (q+y)).take j,0≤x:=fun x hx=>by
      rcases ZkW (List.mem_of_mem_take hx) with rfl | hx
      ·omega
      ·exact (hall x hx).1
     have hqy:q+y≤43000:=by
      have hmem:q+y∈(l.set p.toNat (q+y)).take j:=by
       refine List.mem_of_getElem? (i:=p.toNat) ?_
       rw [List.getElem?_take,if_pos (by omega),List.getElem?_set_self (by omega)]
      have:=(ZoR hnn2).2 _ hmem
      omega
     left
     refine ⟨_,rfl,⟨⟨j-1,by rw [Ziu (by omega) (by omega)],by omega,?_⟩,by simp [hl],fun x hx=>?_⟩,?_⟩
     ·simp only
      rw [show j-1+1=j by omega]
      exact hnew
     ·rcases ZkW hx with rfl | hx
      ·exact ⟨by omega,hqy⟩
      ·exact hall x hx
     ·show (Wq ((j:Int)-1)).toNat<((j:Int)).toNat
      rw [Ziu (by omega) (by omega)];omega
    ·rw [if_neg h0]
     right
     exact ⟨_,rfl,_,rfl,hl,hall⟩)
  obtain ⟨r,h1,r',rfl,h3⟩:=this
  exact ⟨r',h1,h3⟩
/-
  Plain laws: marks are held; how many numbers there are.
-/
theorem Zti (a:Zd) (h:tot Yt a≤1048576):cnt Yt a≤100+20*1048576:=by
 have hc:=Zn6 Yt a
 have h1:wid Yt≤100:=by decide
 have h2:ZcO Yt≤20:=by decide
 have:=Nat.mul_le_mul_right (tot Yt a) h2
 omega
/-
  Plain laws: marks are held.
-/
theorem Zvv (l:List Int) (hl:(l.length:Int)≤1048576):sm (.sl (.int .i64)) l:=⟨hl,fun x _=>trivial⟩
theorem Zuw (l:List Int):cnt (.sl (.int .i64)) l=l.length:=by
 show (l.map (cnt (.int .i64))).sum=_
 induction l with
 | nil=>rfl
 | cons x r ih=>simp only [List.map_cons,List.sum_cons,ih,List.length_cons,Zb6];omega
/-
  Plain laws: spans, slews.
-/
def ZeV (s:Zu):Prop:=0≤Zu.Early s∧Zu.Early s≤Zu.Late s∧Zu.Late s≤1000000
theorem ZgQ (s:Zu):ZaM s=some (tr (ZeV s)):=by
 unfold ZaM ZeV
 exact YK (fun _=>YK (fun _=>ZcQ decide_eq_true_iff))
def Zd1 (s:Zu):Prop:=(-1000000000≤Zu.Early s∧Zu.Early s≤1000000000)∧(-1000000000≤Zu.Late s∧Zu.Late s≤1000000000)∧Zu.Early s≤Zu.Late s
theorem Zfu (s:Zu):ZcU s=some (tr (Zd1 s)):=by
 unfold ZcU Zd1 Zgf
 exact YL (Zb4 (V7 _ _ _)) (fun _=>YL (Zb4 (V7 _ _ _)) (fun _=>ZcQ decide_eq_true_iff))
theorem ZgH (s:Zu):Zch s=some (tr (ZeV s)):=by
 unfold Zch Zge
 refine Zd7 (YL (Zfu s) (fun _=>YL (Zb4 (V7 _ _ _)) (fun _=>Zb4 (Zb4 (V7 _ _ _))))) ?_
 unfold ZeV Zd1
 omega
/-
  Plain laws: spans, the reference's.
-/
theorem ZiH (s:Zu):Zc5 s=some (tr (Zd1 s)):=by
 unfold Zc5 Zd1
 exact YL (Ji _ _ _) (fun _=>YL (Ji _ _ _) (fun _=>ZcQ decide_eq_true_iff))
end Go.Proofs.YtclfgjepbamnlaaGreatDoor
