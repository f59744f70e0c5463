/-
  Plain laws: what a place asks of its net; loads are always told.
-/
import Derived.Test.YtnnbgbgapogckaaGreatDoorLA
import Derived.Test.YtnnbgbgapogckaaGreatDoorLC
namespace Go.Proofs.YtnnbgbgapogckaaGreatDoor
set_option linter.unusedVariables false
set_option linter.unusedSimpArgs false
open Go Go.Sx
theorem ZFy {α τ ρ:Type} {l:List α} (I:Nat→τ→Prop) (Q:ρ→Prop) {step:τ→Option (τ ⊕ ρ)} {v:τ} (h0:I 0 v)
  (hs:∀ (k:Nat) (x:α) (v:τ),l[k]?=some x→k<l.length→I k v→∃ v',step v=some (.inl v')∧I (k+1) v')
  (hx:∀ v,I l.length v→∃ r,step v=some (.inr r)∧Q r):∃ r,ZA step v=some r∧Q r :=
 ZaD l.length I Q h0 (fun k v hk hI=>.inl (hs k l[k] v (List.getElem?_eq_getElem hk) hk hI)) hx
theorem ZFx {α:Type} {l:List α} {i:Int} (h0:0≤i) (h1:i<(l.length:Int)):∃ x,atI l i=some x∧x∈l:=by
 obtain ⟨x,h2,h3⟩:=Zbn h0 h1
 exact ⟨x,h2,List.mem_of_getElem? h3⟩
theorem ZJP {a:ZaF} {d:Zp} (h:Zqm a d) {x:Pl} (hx:x∈places d):∃ n,ZEb d a x=some n:=by
 unfold ZEb
 split
 ·exact ⟨_,rfl⟩
 ·rename_i hneg
  unfold places at hx
  rcases List.mem_append.1 hx with hx | hx
  ·obtain ⟨i,z,hi,hz⟩:=Zug.1 hx
   unfold ZeJ at hz
   obtain ⟨j,n,hj,hn⟩:=Zug.1 hz
   simp only [List.mem_singleton] at hn
   subst hn
   rw [Nat.zero_add] at hneg
   obtain ⟨hc,⟨c,hc1,hc2⟩,_⟩:=h.2.2.1 z (List.mem_of_getElem? hi)
   have hj2:=(List.getElem?_eq_some_iff.1 hj).1
   simp only [Zbl.instance,Zbl.pin,Nat.zero_add,VU,hi,Bq]
   rw [Zkf hc.1 hc1,Bq]
   have hp:(QG.ZoY c)[j]?=some (QG.ZoY c)[j]:=List.getElem?_eq_getElem (by omega)
   rw [hp,Bq]
   exact ⟨_,rfl⟩
  ·obtain ⟨j,p,hj,hp⟩:=Zug.1 hx
   simp only [ZdA,List.mem_singleton] at hp
   subst hp
   exact absurd (by show (-1:Int)<0;omega) hneg
theorem ZFv {d:Zp} {net y:Int} (h:y∈sinks d net):0≤y∧y<((places d).length:Int):=by
 obtain ⟨k,x,hk,hy⟩:=Zug.1 h
 have:=(List.getElem?_eq_some_iff.1 hk).1
 unfold Zg9 at hy
 split at hy
 ·split at hy
  ·cases hy
  ·simp only [List.mem_singleton] at hy;omega
 ·cases hy
theorem ZH5 {b:Zv} (h:ZqJ b) {k:Nat} {w:QH} (hw:(Zv.ZlA b)[k]?=some w):∃ r,ZDY b (k:Int)=some r∧r.length=(QH.Parent w).length:=by
 have hW:=h.ok.2.2 k w hw
 have hD:=h.ok.1
 have hf:=hD.few
 obtain ⟨⟨l1,l8⟩,lr,lc,ls,ht,ar,ac,asn⟩:=hW
 have hpl:=Zck hf
 have hsl:=Zgm (k:Int) (places (Zv.Design b)) 0
 have hsl2:(sinks (Zv.Design b) (k:Int)).length≤78:=by unfold sinks;omega
 unfold ZDY
 rw [VU,hw,Bq]
 unfold Zpk
 rw [ZB (by simp;omega),Bq,Zpj _ hf,Bq,Zvn _ _ hf,Bq]
 refine ZFy (l:=sinks (Zv.Design b) (k:Int)) (fun m v=>v.1=(m:Int)∧v.2.1.length=(QH.Parent w).length) _ ⟨rfl,by simp;omega⟩ ?_ ?_
 ·rintro m y ⟨i,l,⟨⟩⟩ hy hm ⟨hi,hl⟩
  simp only at hi hl
  subst hi
  have hz:(QH.ZnH w)[m]?=some (QH.ZnH w)[m]:=List.getElem?_eq_getElem (by omega)
  generalize (QH.ZnH w)[m]=z at hz
  have hz2:=asn z (List.mem_of_getElem? hz)
  obtain ⟨q,hq1,_⟩:=ZFx (l:=l) hz2.1 (by omega)
  obtain ⟨hy1,hy2⟩:=ZFv (List.mem_of_getElem? hy)
  obtain ⟨p,hp1,hp2⟩:=ZFx hy1 hy2
  obtain ⟨c,hc⟩:=ZJP hD hp2
  simp only [ZD0,show (m:Int)<((sinks (Zv.Design b) (k:Int)).length:Int) from by omega,if_true,VU,hy,hz,Bq,hq1,hp1,hc]
  exact ⟨_,rfl,by rw [Zkd (by omega)],by simp [hl]⟩
 ·rintro ⟨i,l,⟨⟩⟩ ⟨hi,hl⟩
  simp only at hi hl
  subst hi
  simp only [ZD0,Int.lt_irrefl,if_false]
  have:=ZeX (σ:=Int×List Int×Unit) (ρ:=(Int×List Int×Unit) ⊕ List Int) (step:=fun v=>ZDZ w v.1 v.2.1) (fun v=>(∃ j:Nat,v.1=(j:Int)∧j<(QH.Parent w).length)∧v.2.1.length=(QH.Parent w).length) (fun v=>v.1.toNat) (fun r=>∃ r',r=.inr r'∧r'.length=(QH.Parent w).length) (v:=(Wq ((l.length:Int)-1),l,()))
   ⟨⟨l.length-1,by show Wq _=_;rw [ZAd (by omega) (by omega)],by omega⟩,hl⟩
   (by
    rintro ⟨i,l,⟨⟩⟩ ⟨⟨j,hj,hj2⟩,hl⟩
    simp only at hj hl
    subst hj
    simp only [ZDZ]
    by_cases h0:(0:Int)<(j:Int)
    ·rw [if_pos h0]
     have hp:(QH.Parent w)[j]?=some (QH.Parent w)[j]:=List.getElem?_eq_getElem (by omega)
     generalize (QH.Parent w)[j]=p at hp
     have hp2:=(ht j p hp).2 (by omega)
     obtain ⟨q,hq1,_⟩:=ZFx (l:=l) hp2.1 (by omega)
     have hl2:l[j]?=some l[j]:=List.getElem?_eq_getElem (by omega)
     simp only [VU,hp,Bq,hq1,hl2]
     left
     refine ⟨_,rfl,⟨⟨j-1,by rw [ZAd (by omega) (by omega)],by omega⟩,by simp [hl]⟩,?_⟩
     show (Wq ((j:Int)-1)).toNat<((j:Int)).toNat
     rw [ZAd (by omega) (by omega)];omega
    ·rw [if_neg h0]
     right
     exact ⟨_,rfl,_,rfl,hl⟩)
  obtain ⟨r,h1,r',rfl,h3⟩:=this
  exact ⟨r',h1,h3⟩
/-
  Plain laws: the place that drives a net.
-/
theorem ZIa {α:Type} {p:α→Bool} {l:List α} {k:Nat} {x:α} (hx:l[k]?=some x) (hp:p x=true) (hf:∀ (j:Nat) (y:α),j<k→l[j]?=some y→p y=false):Zrm p l=(k:Int):=by
 have hk:=(List.getElem?_eq_some_iff.1 hx)
 have:l.findIdx? p=some k:=by
  rw [List.findIdx?_eq_some_iff_getElem]
  refine ⟨hk.1,by rw [hk.2];exact hp,fun j hj=>?_⟩
  have:=hf j (l[j]'(by have:=hk.1;omega)) hj (List.getElem?_eq_getElem _)
  simp [this]
 unfold Zrm
 rw [this]
theorem ZH7 (d:Zp) (n:Int) (h:Few d):ZHn d n=some (Zrm (fun x:Pl=>decide (x.2.2.1=n)&&x.2.2.2.1) (places d)):=by
 have hpl:=Zck h
 unfold ZHn
 rw [JF d h,Bq]
 refine Zru (out:=fun i=>i) (show Len (places d) by show List.length _≤_;omega) (fun k x hx=>?_) ?_
 ·have hk:=(List.getElem?_eq_some_iff.1 hx).1
  simp only [ZGY,show (k:Int)<((places d).length:Int) from by omega,if_true,VU,hx,Bq,Bool.and_eq_true,decide_eq_true_eq]
  split
  ·rename_i e1
   split
   ·rename_i e2;rw [if_pos ⟨e1,e2⟩]
   ·rename_i e2;rw [if_neg (fun q=>e2 q.2)]
  ·rename_i e1;rw [if_neg (fun q=>e1 q.1)]
 ·simp only [ZGY,Int.lt_irrefl,if_false]
theorem ZIN {i:Nat} {x:Zz} {a:ZaF} {d:Zp} (hl:Zyz a) (h:Zvs a d x) (hsm:(Zz.Zbh x).length≤1048576):((ZeJ i x).filter (fun y=>y.2.2.2.1)).map (fun y=>y.2.2.1)=[ZpZ x]:=by
 obtain ⟨_,⟨c,hc,hn⟩,_⟩:=h
 have h2:2≤(QG.ZoY c).length:=(hl.2.1 c (List.mem_of_getElem? hc)).2.1.1
 unfold ZeJ ZpZ
 rw [ZAd hsm (by omega)]
 generalize hN:Zz.Zbh x=l
 rw [hN] at hn
 have hne:l.length≠0:=by omega
 have gen:∀ (l:List Int) (m n:Nat),m+l.length=n+1→l.length≠0→((cat (fun j n'=>[((i:Int),(j:Int),n',decide ((j:Int)=((n:Nat):Int)),())]) m l).filter (fun y:Pl=>y.2.2.2.1)).map (fun y=>y.2.2.1)=[l.getLastD 0]:=by
  intro l
  induction l with
  | nil=>intro m n _ h0;simp at h0
  | cons y r ih =>
   intro m n hm _
   by_cases hr:r=[]
   ·subst hr
    simp only [List.length_cons,List.length_nil] at hm
    have:(m:Int)=(n:Int):=by omega
    simp [cat,this]
   ·have hrl:r.length≠0:=fun e=>hr (List.eq_nil_of_length_eq_zero e)
    simp only [List.length_cons] at hm
    have hmn:¬(m:Int)=(n:Int):=by omega
    have:=ih (m+1) n (by omega) hrl
    simp only [cat,List.cons_append,List.nil_append]
    rw [List.filter_cons_of_neg (by simp [hmn]),this]
    cases r with
    | nil=>exact absurd rfl hr
    | cons z q=>simp [List.getLastD_cons]
 exact gen l 0 (l.length-1) (by omega) hne
theorem ZIO (j:Nat) (p:Zah):((ZdA j p).filter (fun y=>y.2.2.2.1)).map (fun y=>y.2.2.1)=if Zah.Dir p=1 then [Zah.Net p] else []:=by
 unfold ZdA
 by_cases h:Zah.Dir p=1
 ·simp [h]
 ·simp [h]
theorem ZI4 {a:ZaF} {d:Zp} (h:Zqm a d) (hsm:sm ZdN d):((places d).filter (fun y=>y.2.2.2.1)).map (fun y=>y.2.2.1)=Zxg d:=by
 unfold places Zxg
 rw [List.filter_append,List.map_append]
 congr 1
 ·have:∀ (l:List Zz) (m:Nat),(∀ x∈l,Zvs a d x∧(Zz.Zbh x).length≤1048576)→((cat ZeJ m l).filter (fun y=>y.2.2.2.1)).map (fun y=>y.2.2.1)=l.map ZpZ:=by
   intro l
   induction l with
   | nil=>intro m _;rfl
   | cons x r ih =>
    intro m hl
    have hx:=hl x (by simp)
    simp only [cat,List.filter_append,List.map_append,List.map_cons]
    rw [ZIN h.1 hx.1 hx.2,ih (m+1) (fun y hy=>hl y (by simp [hy]))]
    rfl
  exact this _ 0 (fun x hx=>⟨h.2.2.1 x hx,Zo9 (ZuV (Zy3 (Zrk hsm).1 hx)).2⟩)
 ·have:∀ (l:List Zah) (m:Nat),((cat ZdA m l).filter (fun y=>y.2.2.2.1)).map (fun y=>y.2.2.1)=(l.filter (fun p=>decide (Zah.Dir p=1))).map Zah.Net:=by
   intro l
   induction l with
   | nil=>intro m;rfl
   | cons p r ih =>
    intro m
    simp only [cat,List.filter_append,List.map_append]
    rw [ZIO,ih (m+1)]
    by_cases hd:Zah.Dir p=1
    ·simp [hd]
    ·simp [hd]
  exact this _ 0
theorem ZIo {α:Type} {p:α→Bool} {l:List α} {i j:Nat} {a b:α} (hij:i<j) (ha:l[i]?=some a) (hb:l[j]?=some b) (pa:p a=true) (pb:p b=true):2≤l.countP p:=by
 have e:l.countP p=(l.take j).countP p+(l.drop j).countP p:=by rw [←List.countP_append,List.take_append_drop]
 have h1:0<(l.take j).countP p:=List.countP_pos_iff.2 ⟨a,List.mem_iff_getElem?.2 ⟨i,by rw [List.getElem?_take,if_pos hij];exact ha⟩,pa⟩
 have h2:0<(l.drop j).countP p:=List.countP_pos_iff.2 ⟨b,List.mem_iff_getElem?.2 ⟨0,by rw [List.getElem?_drop];exact hb⟩,pb⟩
 omega
def ZIY (n:Int) (x:Pl):Bool:=decide (x.2.2.1=n)&&x.2.2.2.1
def ZHV (d:Zp) (n:Int):Int:=Zrm (ZIY n) (places d)
theorem ZJB {a:ZaF} {d:Zp} (h:Zqm a d) (hsm:sm ZdN d) {v:Nat} (hv:v<(Zp.Zbh d).length):(places d).countP (ZIY (v:Int))=1:=by
 have h1:=h.2.2.2.2 _ (List.mem_of_getElem? (Zvf (s:=Zxg d) hv))
 rw [←ZI4 h hsm,List.countP_map,List.countP_filter] at h1
 have e:(places d).countP (ZIY (v:Int))=(places d).countP (fun y=>((fun x=>decide (x=(v:Int)))∘fun y:Pl=>y.2.2.1) y&&y.2.2.2.1):=rfl
 rw [e]
 omega
theorem ZIZ {a:ZaF} {d:Zp} (h:Zqm a d) (hsm:sm ZdN d) {v:Nat} (hv:v<(Zp.Zbh d).length) :
  ∃ (q:Nat) (y:Pl),(places d)[q]?=some y∧ZIY (v:Int) y=true∧ZHV d (v:Int)=(q:Int)∧∀ (p:Nat) (z:Pl),(places d)[p]?=some z→ZIY (v:Int) z=true→p=q:=by
 have hc:=ZJB h hsm hv
 obtain ⟨y,hy,hp⟩:=List.countP_pos_iff.1 (show 0<(places d).countP (ZIY (v:Int)) by omega)
 obtain ⟨q,hq⟩:=List.mem_iff_getElem?.1 hy
 have uniq:∀ (p:Nat) (z:Pl),(places d)[p]?=some z→ZIY (v:Int) z=true→p=q:=by
  intro p z hz hpz
  rcases Nat.lt_trichotomy p q with hlt | he | hlt
  ·have:=ZIo hlt hz hq hpz hp;omega
  ·exact he
  ·have:=ZIo hlt hq hz hp hpz;omega
 refine ⟨q,y,hq,hp,ZIa hq hp (fun j z hj hz=>?_),uniq⟩
 cases hb:ZIY (v:Int) z
 ·rfl
 ·have:=uniq j z hz hb;omega
/-
  Plain laws: the view is always made.
-/
theorem ZIe {b:Zv} (h:ZqJ b) {k:Nat} {w:QH} (hw:(Zv.ZlA b)[k]?=some w):∃ r,ZGr b (k:Int)=some r∧r.length≤1048576:=by
 have hW:=h.ok.2.2 k w hw
 obtain ⟨⟨l1,l8⟩,lr,lc,ls,ht,ar,ac,asn⟩:=hW
 obtain ⟨nl,hnl,hnl2⟩:=ZH5 h hw
 have hsm:=Zo9 (Zv3 (ZqC (Zrd h.sm).2.2 hw)).2.2.2
 have hnd:∃ r,ZD5 b (k:Int)=some r∧r.length=(QH.Parent w).length:=by
  unfold ZD5
  rw [VU,hw,Bq,hnl,Bq,ZB (by omega),ZB (by omega),ZB (by omega),ZB (by omega)]
  refine ZaD ((QH.Parent w).length-1) (fun m v=>v.1=((m+1:Nat):Int)∧v.2.1.length=(QH.Parent w).length) _ ⟨rfl,by simp [hnl2]⟩ ?_ ?_
  ·rintro m ⟨i,l,⟨⟩⟩ hm ⟨hi,hl⟩
   simp only at hi hl
   subst hi
   left
   have hp:(QH.Parent w)[m+1]?=some (QH.Parent w)[m+1]:=List.getElem?_eq_getElem (by omega)
   generalize (QH.Parent w)[m+1]=p at hp
   have hp2:=(ht (m+1) p hp).2 (by omega)
   obtain ⟨q,hq1,_⟩:=ZFx (l:=l) hp2.1 (by omega)
   have hr:(QH.Res w)[m+1]?=some (QH.Res w)[m+1]:=List.getElem?_eq_getElem (by omega)
   have hn:nl[m+1]?=some nl[m+1]:=List.getElem?_eq_getElem (by omega)
   have hl2:l[m+1]?=some l[m+1]:=List.getElem?_eq_getElem (by omega)
   simp only [ZD4,show ((m+1:Nat):Int)<(l.length:Int) from by omega,if_true,VU,hp,hq1,hr,hn,hl2,Bq]
   exact ⟨_,rfl,by rw [Zkd (by omega)],by simp [hl]⟩
  ·rintro ⟨i,l,⟨⟩⟩ ⟨hi,hl⟩
   simp only at hi hl
   subst hi
   simp only [ZD4,show ¬(((QH.Parent w).length-1+1:Nat):Int)<(l.length:Int) from by omega,if_false]
   exact ⟨_,rfl,hl⟩
 obtain ⟨nd,hnd,hnd2⟩:=hnd
 unfold ZGr
 rw [hnd,Bq,VU,hw,Bq]
 refine ZFy (l:=QH.ZnH w) (fun m v=>v.1.length=m∧v.2.1=(m:Int)) _ ⟨rfl,rfl⟩ ?_ ?_
 ·rintro m y ⟨o,i,⟨⟩⟩ hy hm ⟨ho,hi⟩
  simp only at hi ho
  subst hi
  have hz2:=asn y (List.mem_of_getElem? hy)
  obtain ⟨q,hq1,_⟩:=ZFx (l:=nd) hz2.1 (by omega)
  simp only [ZGs,show (m:Int)<((QH.ZnH w).length:Int) from by omega,if_true,VU,hy,hq1,Bq]
  rw [ZB (by simp;omega)]
  exact ⟨_,rfl,by simp [ho],by rw [Zkd (by omega)]⟩
 ·rintro ⟨o,i,⟨⟩⟩ ⟨ho,hi⟩
  simp only at hi ho
  subst hi
  simp only [ZGs,Int.lt_irrefl,if_false]
  exact ⟨_,rfl,by omega⟩
/-
  Plain laws: links of arcs.
-/
def ZG7 (f t a b kind ix:Int):Ze4:=(2*f+a,2*t+b,kind,ix,())
def trs (a:ZfN):List (Int×Int×Unit) :=
 if ZfN.Kind a=2 then [(0,0,()),(0,1,())] else if ZfN.Kind a=3 then [(1,0,()),(1,1,())] else
  if ZfN.Kind a=1 then (if ZfN.ZoE a=1 then [(0,0,()),(1,1,())] else if ZfN.ZoE a=2 then [(0,1,()),(1,0,())] else [(0,0,()),(0,1,()),(1,0,()),(1,1,())]) else []
theorem ZIn (a:ZfN):ZGM a=some (trs a):=by
 unfold ZGM trs
 repeat' split
 all_goals rfl
def ZIi (a:ZfN) (f t ix:Int):List Ze4:=(trs a).map (fun p=>ZG7 f t p.1 p.2.1 1 ix)
theorem ZIU (l:List Ze4) (f t a b kind ix:Int) (hl:l.length≤1048576) (hf:0≤f∧f≤1048576) (ht:0≤t∧t≤1048576) (ha:0≤a∧a≤1) (hb:0≤b∧b≤1) :
  ZGR l f t a b kind ix=some (l++[ZG7 f t a b kind ix]):=by
 unfold ZGR ZG7
 rw [ZB (by simp;omega),XD (n:=2*f) (by omega) (by omega),XD (n:=2*t) (by omega) (by omega),XD (n:=2*f+a) (by omega) (by omega),XD (n:=2*t+b) (by omega) (by omega)]
def ZKd (arc:ZfN) (a b:Int):Bool :=
 if ZfN.Kind arc=1 then (if ZfN.ZoE arc=3 then true else (decide (ZfN.ZoE arc=1) == decide (a=b))) else if ZfN.Kind arc=2 then decide (a=0) else if ZfN.Kind arc=3 then decide (a=1) else false
def ZH6 (arc:ZfN) (f t ix a b:Int):List Ze4:=if ZKd arc a b=true then [ZG7 f t a b 1 ix] else []
theorem ZIV (arc:ZfN) (f t ix a b:Int) (l:List Ze4) (hl:l.length≤1048576) (hf:0≤f∧f≤1048576) (ht:0≤t∧t≤1048576) (ha:0≤a∧a≤1) (hb:0≤b∧b≤1) :
  ZGP arc f t ix a l b=some (.inl (l++ZH6 arc f t ix a b,b+1,())):=by
 unfold ZGP ZH6 ZKd
 rw [if_pos (by omega),ZIU l f t a b 1 ix hl hf ht ha hb,XD (n:=b+1) (by omega) (by omega)]
 simp only [Bq]
 by_cases k1:ZfN.Kind arc=1
 ·simp only [k1,if_true]
  by_cases s3:ZfN.ZoE arc=3
  ·simp only [s3,if_true]
  ·simp only [s3,if_false]
   split
   ·rfl
   ·rw [List.append_nil]
 by_cases k2:ZfN.Kind arc=2
 ·simp only [k2,if_true,Int.reduceEq,if_false,decide_eq_true_eq]
  split
  ·rfl
  ·rw [List.append_nil]
 by_cases k3:ZfN.Kind arc=3
 ·simp only [k3,if_true,Int.reduceEq,if_false,decide_eq_true_eq]
  split
  ·rfl
  ·rw [List.append_nil]
 ·simp only [k1,k2,k3,if_false,Bool.false_eq_true,List.append_nil]
theorem ZId (arc:ZfN) (f t ix a b:Int):(ZH6 arc f t ix a b).length≤1:=by
 unfold ZH6;split<;>simp
theorem ZIz (arc:ZfN) (f t ix a:Int) (l:List Ze4) (hl:l.length≤1048000) (hf:0≤f∧f≤1048576) (ht:0≤t∧t≤1048576) (ha:0≤a∧a≤1) :
  ZA (fun v=>ZGP arc f t ix a v.1 v.2.1) (l,(0:Int),())=some (.inl (l++ZH6 arc f t ix a 0++ZH6 arc f t ix a 1,a+1,())):=by
 have h1:=ZId arc f t ix a 0
 have h2:=ZId arc f t ix a 1
 rw [ZgA (v':=(l++ZH6 arc f t ix a 0,(0:Int)+1,())) (ZIV arc f t ix a 0 l (by omega) hf ht ha (by omega)),
  ZgA (v':=(l++ZH6 arc f t ix a 0++ZH6 arc f t ix a 1,(0:Int)+1+1,())) (ZIV arc f t ix a (0+1) _ (by rw [List.length_append];omega) hf ht ha (by omega)),Zct]
 simp only [ZGP]
 rw [if_neg (by omega),XD (n:=a+1) (by omega) (by omega)]
theorem ZJU (arc:ZfN) (f t ix:Int) (hs:ZfN.Kind arc=1→1≤ZfN.ZoE arc∧ZfN.ZoE arc≤3):ZH6 arc f t ix 0 0++ZH6 arc f t ix 0 1++(ZH6 arc f t ix 1 0++ZH6 arc f t ix 1 1)=ZIi arc f t ix:=by
 unfold ZH6 ZKd ZIi trs
 by_cases k1:ZfN.Kind arc=1
 ·have h:=hs k1
  by_cases s1:ZfN.ZoE arc=1
  ·simp [k1,s1]
  by_cases s2:ZfN.ZoE arc=2
  ·simp [k1,s2]
  ·have s3:ZfN.ZoE arc=3:=by omega
   simp [k1,s3]
 by_cases k2:ZfN.Kind arc=2
 ·simp [k2]
 by_cases k3:ZfN.Kind arc=3
 ·simp [k3]
 ·simp [k1,k2,k3]
theorem ZIm (l:List Ze4) (arc:ZfN) (f t ix:Int) (hl:l.length≤1047000) (hf:0≤f∧f≤1048576) (ht:0≤t∧t≤1048576) (hs:ZfN.Kind arc=1→1≤ZfN.ZoE arc∧ZfN.ZoE arc≤3) :
  ZHH l arc f t ix=some (l++ZIi arc f t ix):=by
 have h1:=ZId arc f t ix 0 0
 have h2:=ZId arc f t ix 0 1
 unfold ZHH
 have s0:ZGD arc f t ix l 0=some (.inl (l++ZH6 arc f t ix 0 0++ZH6 arc f t ix 0 1,0+1,())):=by
  unfold ZGD
  rw [if_pos (by omega),ZIz arc f t ix 0 l (by omega) hf ht (by omega)]
 have s1:ZGD arc f t ix (l++ZH6 arc f t ix 0 0++ZH6 arc f t ix 0 1) 1=some (.inl (l++ZH6 arc f t ix 0 0++ZH6 arc f t ix 0 1++ZH6 arc f t ix 1 0++ZH6 arc f t ix 1 1,1+1,())):=by
  unfold ZGD
  rw [if_pos (by omega),ZIz arc f t ix 1 _ (by simp only [List.length_append];omega) hf ht (by omega)]
 rw [ZgA (v':=(l++ZH6 arc f t ix 0 0++ZH6 arc f t ix 0 1,(1:Int),())) s0,ZgA (v':=(l++ZH6 arc f t ix 0 0++ZH6 arc f t ix 0 1++ZH6 arc f t ix 1 0++ZH6 arc f t ix 1 1,(2:Int),())) s1,Zct (r:=l++ZIi arc f t ix)]
 simp only [ZGD]
 rw [if_neg (by omega),←ZJU arc f t ix hs]
 simp only [List.append_assoc]
def ZI2 (c:QG) (f:Int):List Ze4:=cat (fun i a=>ZIi a (f+ZfN.From a) (f+ZfN.To a) (i:Int)) 0 (QG.ZoW c)
theorem ZIy (a:ZfN):(trs a).length≤4:=by
 unfold trs;repeat' split
 all_goals simp
theorem ZHO {b:Zv} (h:ZqJ b) {x:Zz} (hx:x∈Zp.Instances (Zv.Design b)) (f:Int) (hf:0≤f∧f≤1000000) :
  ∃ c,(ZaF.Cells (Zv.Library b))[(Zz.Cell x).toNat]?=some c∧ZvM c∧ZGN b x f=some (ZI2 c f):=by
 obtain ⟨hc,⟨c,hc1,hc2⟩,_⟩:=h.ok.1.2.2.1 x hx
 have hC:=h.ok.1.1.2.1 c (List.mem_of_getElem? hc1)
 have hA:=hC.2.2.1.1
 refine ⟨c,hc1,hC,?_⟩
 unfold ZGN
 rw [Zkf hc.1 hc1,Bq]
 refine ZaG (l:=QG.ZoW c) (fun i a=>ZIi a (f+ZfN.From a) (f+ZfN.To a) (i:Int)) [] (fun k a ha hk=>?_) ?_
 ·have hao:=(hC.2.2.1.2 k a ha).1
  have hpl:=hC.2.1.2.1
  have hl:=Zb1 (f:=fun i a=>ZIi a (f+ZfN.From a) (f+ZfN.To a) (i:Int)) (c:=4) (l:=(QG.ZoW c).take k) (m:=0) (fun i a _=>by simp only [ZIi,List.length_map];exact ZIy a)
  rw [List.length_take] at hl
  simp only [List.nil_append,ZGv,show (k:Int)<((QG.ZoW c).length:Int) from by omega,if_true,VU,ha,ZIn,Bq]
  generalize cat (fun i a=>ZIi a (f+ZfN.From a) (f+ZfN.To a) (i:Int)) 0 ((QG.ZoW c).take k)=acc at hl
  have ht4:=ZIy a
  have htr:∀ p∈trs a,(0≤p.1∧p.1≤1)∧(0≤p.2.1∧p.2.1≤1):=by
   intro p hp
   unfold trs at hp
   repeat' split at hp
   all_goals (simp only [List.mem_cons,List.not_mem_nil,or_false] at hp)
   all_goals first | (rcases hp with rfl | rfl | rfl | rfl<;>simp) | (rcases hp with rfl | rfl<;>simp) | exact hp.elim
  have h1:=hao.1
  have h2:=hao.2.1
  refine (ZaG (l:=trs a) (ρ:=(List Ze4×Int×Unit) ⊕ List Ze4) (fun _ p=>[ZG7 (f+ZfN.From a) (f+ZfN.To a) p.1 p.2.1 1 (k:Int)]) acc (good:=.inl (acc++ZIi a (f+ZfN.From a) (f+ZfN.To a) (k:Int),((k+1:Nat):Int),())) (fun j p hp hj=>?_) ?_)
  ·have hp2:=htr p (List.mem_of_getElem? hp)
   have hl2:=Zb1 (f:=fun (_:Nat) (p:Int×Int×Unit)=>[ZG7 (f+ZfN.From a) (f+ZfN.To a) p.1 p.2.1 1 (k:Int)]) (c:=1) (l:=(trs a).take j) (m:=0) (fun _ _ _=>by simp)
   rw [List.length_take] at hl2
   simp only [ZGu,show (j:Int)<((trs a).length:Int) from by omega,if_true,VU,hp,Bq]
   rw [ZB (by rw [List.length_append,List.length_singleton];omega),Zkd (by omega),XD (n:=f+ZfN.From a) (by omega) (by omega),XD (n:=f+ZfN.To a) (by omega) (by omega),XD (n:=2*(f+ZfN.From a)) (by omega) (by omega),XD (n:=2*(f+ZfN.To a)) (by omega) (by omega),XD (n:=2*(f+ZfN.From a)+p.1) (by omega) (by omega),XD (n:=2*(f+ZfN.To a)+p.2.1) (by omega) (by omega)]
   rfl
  ·have e:cat (fun (_:Nat) (p:Int×Int×Unit)=>[ZG7 (f+ZfN.From a) (f+ZfN.To a) p.1 p.2.1 1 (k:Int)]) 0 (trs a)=ZIi a (f+ZfN.From a) (f+ZfN.To a) (k:Int):=by
    unfold ZIi
    generalize trs a=l
    have:∀ (m:Nat),cat (fun (_:Nat) (p:Int×Int×Unit)=>[ZG7 (f+ZfN.From a) (f+ZfN.To a) p.1 p.2.1 1 (k:Int)]) m l=l.map (fun p=>ZG7 (f+ZfN.From a) (f+ZfN.To a) p.1 p.2.1 1 (k:Int)):=by
     induction l with
     | nil=>intro m;rfl
     | cons p r ih=>intro m;simp [cat,ih]
    exact this 0
   simp only [ZGu,Int.lt_irrefl,if_false,e]
   rw [Zkd (by omega)]
 ·simp only [List.nil_append,ZGv,Int.lt_irrefl,if_false];rfl
/-
  Plain laws: where a pin's place is; the links of all instances.
-/
theorem ZIg (d:Zp) (i j:Int) (h:Few d):Zs1 d i j=some (Zrm (fun x:Pl=>decide (x.1=i)&&decide (x.2.1=j)) (places d)):=by
 have hpl:=Zck h
 unfold Zs1
 rw [JF d h,Bq]
 refine Zru (out:=fun i=>i) (show Len (places d) by show List.length _≤_;omega) (fun k x hx=>?_) ?_
 ·have hk:=(List.getElem?_eq_some_iff.1 hx).1
  simp only [Ztj,show (k:Int)<((places d).length:Int) from by omega,if_true,VU,hx,Bq,Bool.and_eq_true,decide_eq_true_eq]
  split
  ·rename_i e1
   split
   ·rename_i e2;rw [if_pos ⟨e1,e2⟩]
   ·rename_i e2;rw [if_neg (fun q=>e2 q.2)]
  ·rename_i e1;rw [if_neg (fun q=>e1 q.1)]
 ·simp only [Ztj,Int.lt_irrefl,if_false]
theorem ZIL {α β:Type} {g:Nat→α→β}:∀ {l:List α} {m j:Nat},(cat (fun j n=>[g j n]) m l)[j]?=(l[j]?).map (g (m+j))
 | [],m,j=>by simp [cat]
 | x::r,m,0=>by simp [cat]
 | x::r,m,j+1=>by
  simp only [cat,List.cons_append,List.nil_append,List.getElem?_cons_succ]
  rw [ZIL (l:=r) (m:=m+1) (j:=j),show m+1+j=m+(j+1) by omega]
theorem ZH0 {α β:Type} {g:Nat→α→β}:∀ {l:List α} {m:Nat},(cat (fun j n=>[g j n]) m l).length=l.length
 | [],m=>rfl
 | x::r,m=>by simp [cat,ZH0 (l:=r)]
theorem ZHF (i:Nat) (x:Zz):(ZeJ i x).length=(Zz.Zbh x).length:=by unfold ZeJ;rw [ZH0]
def fst (d:Zp) (i:Nat):Nat:=(cat ZeJ 0 ((Zp.Instances d).take i)).length
theorem ZJV {d:Zp} {i:Nat} {x:Zz} (hx:(Zp.Instances d)[i]?=some x):fst d (i+1)=fst d i+(Zz.Zbh x).length:=by
 unfold fst
 rw [Zkj hx,List.length_append,ZHF]
theorem ZIb {d:Zp} {i:Nat} {x:Zz} (hx:(Zp.Instances d)[i]?=some x):∃ B,places d=cat ZeJ 0 ((Zp.Instances d).take i)++(ZeJ i x++B):=by
 have hi:=List.getElem?_eq_some_iff.1 hx
 have e:Zp.Instances d=(Zp.Instances d).take i++(x::(Zp.Instances d).drop (i+1)):=by
  rw [←hi.2,←List.drop_eq_getElem_cons hi.1,List.take_append_drop]
 refine ⟨cat ZeJ (i+1) ((Zp.Instances d).drop (i+1))++cat ZdA 0 (Zp.Vk d),?_⟩
 unfold places
 conv=>lhs;rw [e]
 rw [ZeE]
 have hl:((Zp.Instances d).take i).length=i:=by rw [List.length_take];have:=hi.1;omega
 rw [hl,Nat.zero_add]
 simp only [cat,List.append_assoc]
theorem ZI0 {d:Zp} (h:Few d) {i j:Nat} {x:Zz} (hx:(Zp.Instances d)[i]?=some x) (hj:j<(Zz.Zbh x).length) :
  Zs1 d (i:Int) (j:Int)=some ((fst d i:Int)+(j:Int)):=by
 rw [ZIg d _ _ h]
 obtain ⟨B,hB⟩:=ZIb hx
 congr 1
 have hn:(Zz.Zbh x)[j]?=some (Zz.Zbh x)[j]:=List.getElem?_eq_getElem hj
 have hat:∀ (q:Nat) (y:Pl),(ZeJ i x)[q]?=some y→y.1=(i:Int)∧y.2.1=(q:Int):=by
  intro q y hy
  unfold ZeJ at hy
  rw [ZIL,Nat.zero_add] at hy
  simp only [Option.map_eq_some_iff] at hy
  obtain ⟨n,_,rfl⟩:=hy
  exact ⟨rfl,rfl⟩
 have hex:∃ y,(ZeJ i x)[j]?=some y:=⟨_,List.getElem?_eq_getElem (by rw [ZHF];exact hj)⟩
 obtain ⟨y,hy⟩:=hex
 have hy2:=hat j y hy
 have:=ZIa (p:=fun x:Pl=>decide (x.1=(i:Int))&&decide (x.2.1=(j:Int))) (l:=places d) (k:=fst d i+j) (x:=y)
  (by
   rw [hB,List.getElem?_append_right (by unfold fst;omega),show fst d i+j-(cat ZeJ 0 ((Zp.Instances d).take i)).length=j by unfold fst;omega,List.getElem?_append_left (by rw [ZHF];exact hj)]
   exact hy)
  (by simp [hy2.1,hy2.2])
  (fun q z hq hz=>by
   rw [hB] at hz
   by_cases hqA:q<(cat ZeJ 0 ((Zp.Instances d).take i)).length
   ·rw [List.getElem?_append_left hqA] at hz
    obtain ⟨i',x',hi',hz'⟩:=Zug.1 (List.mem_of_getElem? hz)
    have hlt:i'<i:=by
     have:=(List.getElem?_eq_some_iff.1 hi').1
     rw [List.length_take] at this
     omega
    rw [Nat.zero_add] at hz'
    have:z.1=(i':Int):=by
     unfold ZeJ at hz'
     obtain ⟨j',n,_,hn'⟩:=Zug.1 hz'
     simp only [List.mem_singleton] at hn'
     rw [hn']
    have hne:¬z.1=(i:Int):=by omega
    simp [hne]
   ·have hq2:q-(cat ZeJ 0 ((Zp.Instances d).take i)).length<j:=by unfold fst at hq;omega
    rw [List.getElem?_append_right (by omega),List.getElem?_append_left (by rw [ZHF];omega)] at hz
    have:=(hat _ _ hz).2
    have hne:¬z.2.1=(j:Int):=by omega
    simp [hne])
 rw [this]
 omega
def ZIc (b:Zv) (i:Nat) (x:Zz):List Ze4:=match (ZaF.Cells (Zv.Library b))[(Zz.Cell x).toNat]? with
 | some c=>ZI2 c (fst (Zv.Design b) i:Int)
 | none=>[]
def ZH4 (b:Zv):List Ze4:=cat (ZIc b) 0 (Zp.Instances (Zv.Design b))
theorem ZIA (c:QG) (f:Int) (h:(QG.ZoW c).length≤8):(ZI2 c f).length≤32:=by
 have:=Zb1 (f:=fun i a=>ZIi a (f+ZfN.From a) (f+ZfN.To a) (i:Int)) (c:=4) (l:=QG.ZoW c) (m:=0) (fun i a _=>by simp only [ZIi,List.length_map];exact ZIy a)
 unfold ZI2
 omega
theorem ZJ7 {d:Zp} (h:Few d) (i:Nat):fst d i≤70:=Zap h i
theorem ZJN {b:Zv} (h:ZqJ b) (i:Nat) (x:Zz) (hx:x∈Zp.Instances (Zv.Design b)):(ZIc b i x).length≤32:=by
 obtain ⟨c,h1,h2,_⟩:=ZHO h hx 0 (by omega)
 unfold ZIc
 rw [h1]
 exact ZIA c _ h2.2.2.1.1
theorem ZHS {b:Zv} (h:ZqJ b) (k:Nat):(cat (ZIc b) 0 ((Zp.Instances (Zv.Design b)).take k)).length≤448:=by
 have h1:=h.ok.1.few.insts
 have:=Zb1 (f:=ZIc b) (c:=32) (l:=(Zp.Instances (Zv.Design b)).take k) (m:=0) (fun i x hx=>ZJN h i x (List.mem_of_mem_take hx))
 rw [List.length_take] at this
 omega
/-
  Plain laws: the links of all instances, by the reference and by the program; drivers.
-/
theorem ZIJ {b:Zv} (h:ZqJ b) {i:Nat} {x:Zz} (hx:(Zp.Instances (Zv.Design b))[i]?=some x) {c:QG} (hc:(ZaF.Cells (Zv.Library b))[(Zz.Cell x).toNat]?=some c) (acc:List Ze4) (ha:acc.length≤100000) :
  ZA (fun v=>ZGQ b (i:Int) c v.1 v.2.1) (acc,(0:Int),())=some (.inl (acc++ZI2 c (fst (Zv.Design b) i:Int),((i+1:Nat):Int),())):=by
 have hf:=h.ok.1.few
 have hi:=(List.getElem?_eq_some_iff.1 hx).1
 have h14:=hf.insts
 have hxm:=List.mem_of_getElem? hx
 obtain ⟨_,⟨c',hc1,hc2⟩,_⟩:=h.ok.1.2.2.1 x hxm
 rw [hc] at hc1;injection hc1 with hc1;subst hc1
 have hC:=h.ok.1.1.2.1 c (List.mem_of_getElem? hc)
 have hA:=hC.2.2.1.1
 have hpn:=hC.2.1.2.1
 have h70:=ZJ7 hf i
 refine ZaG (l:=QG.ZoW c) (fun k a=>ZIi a ((fst (Zv.Design b) i:Int)+ZfN.From a) ((fst (Zv.Design b) i:Int)+ZfN.To a) (k:Int)) acc (fun k a hka hk=>?_) ?_
 ·have hao:=(hC.2.2.1.2 k a hka).1
  have hl:=Zb1 (f:=fun k a=>ZIi a ((fst (Zv.Design b) i:Int)+ZfN.From a) ((fst (Zv.Design b) i:Int)+ZfN.To a) (k:Int)) (c:=4) (l:=(QG.ZoW c).take k) (m:=0) (fun i a _=>by simp only [ZIi,List.length_map];exact ZIy a)
  rw [List.length_take] at hl
  simp only [ZGQ,show (k:Int)<((QG.ZoW c).length:Int) from by omega,if_true,VU,hka,Bq]
  generalize cat (fun k a=>ZIi a ((fst (Zv.Design b) i:Int)+ZfN.From a) ((fst (Zv.Design b) i:Int)+ZfN.To a) (k:Int)) 0 ((QG.ZoW c).take k)=acc2 at hl
  have h1:=hao.1
  have h2:=hao.2.1
  by_cases hk3:ZfN.Kind a≤3
  ·have e1:=ZI0 hf hx (j:=(ZfN.From a).toNat) (by omega)
   have e2:=ZI0 hf hx (j:=(ZfN.To a).toNat) (by omega)
   rw [show ((ZfN.From a).toNat:Int)=ZfN.From a by omega] at e1
   rw [show ((ZfN.To a).toNat:Int)=ZfN.To a by omega] at e2
   rw [if_pos hk3,e1,Bq,e2,Bq,ZIm _ a _ _ _ (by rw [List.length_append];omega) (by omega) (by omega) (fun hk1=>by
    rcases hao.2.2 with hh | hh | hh
    ·exact hh.2.2.2.1
    ·have:=hh.1;omega
    ·have:=hh.1;omega),Bq,Zkd (by omega)]
  ·rw [if_neg hk3,Zkd (by omega)]
   have e:ZIi a ((fst (Zv.Design b) i:Int)+ZfN.From a) ((fst (Zv.Design b) i:Int)+ZfN.To a) (k:Int)=[]:=by
    unfold ZIi trs
    rw [if_neg (by omega),if_neg (by omega),if_neg (by omega)]
    rfl
   rw [e,List.append_nil]
 ·simp only [ZGQ,Int.lt_irrefl,if_false]
  rw [Zkd (by omega)]
  rfl
/-
  Plain laws: the view's links are the reference's.
-/
def ZJS (d:Zp) (n:Int):List Ze4:=cat (fun j s=>[ZG7 (ZHV d n) s 0 0 2 (j:Int),ZG7 (ZHV d n) s 1 1 2 (j:Int)]) 0 (sinks d n)
theorem ZJX {d:Zp} (h:Few d) (n:Int):(ZJS d n).length≤156:=by
 have h1:=Zb1 (f:=fun j s=>[ZG7 (ZHV d n) s 0 0 2 (j:Int),ZG7 (ZHV d n) s 1 1 2 (j:Int)]) (c:=2) (l:=sinks d n) (m:=0) (fun _ _ _=>by simp)
 have h2:=Zgm n (places d) 0
 have h3:=Zck h
 unfold ZJS
 have:(sinks d n).length≤78:=by unfold sinks;omega
 omega
theorem ZIB {α β γ:Type} (f:Nat→List γ):∀ (l:List α) (r:List β) (m:Nat),l.length=r.length→cat (fun k _=>f k) m l=cat (fun k _=>f k) m r
 | [],[],_,_=>rfl
 | [],_::_,_,h=>by simp at h
 | _::_,[],_,h=>by simp at h
 | _::l,_::r,m,h=>by simp only [cat];rw [ZIB f l r (m+1) (by simpa using h)]
def ZI1 (b:Zv):List Ze4:=cat (fun v _=>ZJS (Zv.Design b) (v:Int)) 0 (Zv.ZlA b)
def ZGm (b:Zv):List Ze4:=ZH4 b++ZI1 b
theorem ZHZ {b:Zv} (h:ZqJ b) {α:Type} (l:List α):(cat (fun v _=>ZJS (Zv.Design b) (v:Int)) 0 l).length≤156*l.length :=
 Zb1 (f:=fun v _=>ZJS (Zv.Design b) (v:Int)) (c:=156) (l:=l) (m:=0) (fun v _ _=>ZJX h.ok.1.few _)
theorem ZHT {b:Zv} (h:ZqJ b):(ZH4 b).length≤448:=by
 have:=ZHS h (Zp.Instances (Zv.Design b)).length
 rw [List.take_length] at this
 exact this
theorem ZIX {b:Zv} (h:ZqJ b) {v:Nat} (hv:v<(Zp.Zbh (Zv.Design b)).length):0≤ZHV (Zv.Design b) (v:Int)∧ZHV (Zv.Design b) (v:Int)<((places (Zv.Design b)).length:Int):=by
 obtain ⟨q,y,hq,_,e,_⟩:=ZIZ h.ok.1 (Zrd h.sm).2.1 hv
 have:=(List.getElem?_eq_some_iff.1 hq).1
 rw [e];omega
theorem ZHK {b:Zv} (h:ZqJ b):ZG1 b=some (ZGm b):=by
 have hf:=h.ok.1.few
 have h14:=hf.insts
 have h30:=h.ok.1.2.1.2.1
 have hpl:=Zck hf
 unfold ZG1
 refine ZaG (l:=Zp.Instances (Zv.Design b)) (ZIc b) [] (fun i x hx hi=>?_) ?_
 ·have hxm:=List.mem_of_getElem? hx
  obtain ⟨hc,⟨c,hc1,hc2⟩,_⟩:=h.ok.1.2.2.1 x hxm
  have hl:=ZHS h i
  simp only [List.nil_append,ZHa,show (i:Int)<((Zp.Instances (Zv.Design b)).length:Int) from by omega,if_true,VU,hx,Bq,Zkf hc.1 hc1]
  rw [ZIJ h hx hc1 _ (by omega)]
  have e:ZIc b i x=ZI2 c (fst (Zv.Design b) i:Int):=by unfold ZIc;rw [hc1]
  rw [e]
 ·have hil:=ZHT h
  simp only [List.nil_append,ZHa,Int.lt_irrefl,if_false]
  refine ZaG (l:=Zp.Zbh (Zv.Design b)) (fun v _=>ZJS (Zv.Design b) (v:Int)) (ZH4 b) (ρ:=(List Ze4×Int×Unit) ⊕ List Ze4) (good:=.inr (ZGm b)) (fun v s hs hv=>?_) ?_
  ·have hdr:=ZIX h hv
   have hl:=ZHZ h ((Zp.Zbh (Zv.Design b)).take v)
   rw [List.length_take] at hl
   have e1:ZHn (Zv.Design b) (v:Int)=some (ZHV (Zv.Design b) (v:Int)):=ZH7 _ _ hf
   simp only [ZG9,show (v:Int)<((Zp.Zbh (Zv.Design b)).length:Int) from by omega,if_true,e1,Bq,ZcT _ _ hf]
   have hsl:(sinks (Zv.Design b) (v:Int)).length≤78:=by
    have:=Zgm (v:Int) (places (Zv.Design b)) 0
    unfold sinks;omega
   generalize hacc:ZH4 b++cat (fun v _=>ZJS (Zv.Design b) (v:Int)) 0 ((Zp.Zbh (Zv.Design b)).take v)=acc
   have hal:acc.length≤10000:=by rw [←hacc,List.length_append];omega
   refine ZaG (l:=sinks (Zv.Design b) (v:Int)) (fun j s=>[ZG7 (ZHV (Zv.Design b) (v:Int)) s 0 0 2 (j:Int),ZG7 (ZHV (Zv.Design b) (v:Int)) s 1 1 2 (j:Int)]) acc (fun j y hy hj=>?_) ?_
   ·have hyb:=ZFv (List.mem_of_getElem? hy)
    have hl2:=Zb1 (f:=fun j s=>[ZG7 (ZHV (Zv.Design b) (v:Int)) s 0 0 2 (j:Int),ZG7 (ZHV (Zv.Design b) (v:Int)) s 1 1 2 (j:Int)]) (c:=2) (l:=(sinks (Zv.Design b) (v:Int)).take j) (m:=0) (fun _ _ _=>by simp)
    rw [List.length_take] at hl2
    simp only [ZG8,show (j:Int)<((sinks (Zv.Design b) (v:Int)).length:Int) from by omega,if_true,VU,hy,Bq]
    rw [ZIU _ _ _ _ _ _ _ (by rw [List.length_append];omega) (by omega) (by omega) (by omega) (by omega),Bq,ZIU _ _ _ _ _ _ _ (by simp only [List.length_append,List.length_singleton];omega) (by omega) (by omega) (by omega) (by omega),Bq,Zkd (by omega)]
    simp only [List.append_assoc,List.cons_append,List.nil_append]
   ·simp only [ZG8,Int.lt_irrefl,if_false]
    rw [Zkd (by omega)];rfl
  ·simp only [ZG9,Int.lt_irrefl,if_false]
   rw [ZIB (fun v=>ZJS (Zv.Design b) (v:Int)) (Zp.Zbh (Zv.Design b)) (Zv.ZlA b) 0 h.ok.2.1.symm]
   rfl
/-
  Plain laws: the view, with its links.
-/
structure Stand (d:Zp) (n k:Nat) (l0:List Int) (l1:List (List Int)):Prop where
 n0:l0.length=n
 n1:l1.length=n
 drv:∀ (v q:Nat) (y:Pl),v<n→q<k→(places d)[q]?=some y→ZIY (v:Int) y=true→l0[v]?=some (q:Int)
 snk:∀ (v:Nat),v<n→l1[v]?=some (cat (Zg9 (v:Int)) 0 ((places d).take k))
noncomputable def ldF (b:Zv) (v:Nat):Int:=((ZDY b (v:Int)).bind (fun r=>r[0]?)).getD 0
noncomputable def edF (b:Zv) (v:Nat):List Int:=(ZGr b (v:Int)).getD []
theorem ZIS {b:Zv} (h:ZqJ b):∃ v,ZHw b=some v∧Zb0.places v=places (Zv.Design b)∧Zb0.Block v=b∧Zb0.links v=ZGm b∧Zb0.loads v=(List.range (Zv.ZlA b).length).map (ldF b)∧Zb0.Zoo v=(List.range (Zv.ZlA b).length).map (edF b)∧Zb0.extras v=[]:=by
 have hD:=h.ok.1
 have hf:=hD.few
 have hsd:=(Zrd h.sm).2.1
 have hpl:=Zck hf
 have h14:=hf.insts
 have hwn:=h.ok.2.1
 have h30:=hD.2.1.2.1
 have hil:=ZHT h
 unfold ZHw
 rw [Zpj _ hf,Bq]
 refine ZFy (l:=Zp.Instances (Zv.Design b)) (fun k v=>v.1=((fst (Zv.Design b) k:Nat):Int)∧v.2.1=(k:Int)∧v.2.2.1=cat (ZIc b) 0 ((Zp.Instances (Zv.Design b)).take k)) _ ⟨rfl,rfl,rfl⟩ ?_ ?_
 ·rintro k x ⟨n,i,c,⟨⟩⟩ hx hk ⟨hn,hi,hc⟩
  simp only at hn hi hc
  subst hi
  subst hn
  subst hc
  have h70:=ZJ7 hf k
  have hl:=ZHS h k
  obtain ⟨c,h1,h2,h3⟩:=ZHO h (List.mem_of_getElem? hx) ((fst (Zv.Design b) k:Nat):Int) (by omega)
  have hal:=ZIA c ((fst (Zv.Design b) k:Nat):Int) h2.2.2.1.1
  have hnx:=hf.nets x (List.mem_of_getElem? hx)
  simp only [ZHi,show (k:Int)<((Zp.Instances (Zv.Design b)).length:Int) from by omega,if_true,VU,hx,h3,Bq,Zrj]
  rw [ZB (by omega)]
  refine ⟨_,rfl,?_,?_,?_⟩
  ·simp only;rw [XD (by omega) (by omega),ZJV hx];omega
  ·simp only;rw [Zkd (by omega)]
  ·simp only
   rw [Zkj hx]
   congr 1
   unfold ZIc;rw [h1]
 ·rintro ⟨n,i,c0,⟨⟩⟩ ⟨_,hi,hc0⟩
  simp only at hi hc0
  subst hi
  rw [List.take_length] at hc0
  have hc0l:c0.length≤448:=by rw [hc0];exact hil
  simp only [ZHi,Int.lt_irrefl,if_false]
  rw [ZB (by omega),ZB (by omega),ZB (by omega),ZB (by omega),ZB (by omega)]
  obtain ⟨r,hr1,r',rfl,hr2⟩:=ZFy (l:=places (Zv.Design b)) (ρ:=(Int×Int×List Ze4×Unit) ⊕ Zb0) (step:=fun v=>ZGU b (places (Zv.Design b)) c0 v.1 v.2.1 v.2.2.1) (v:=((0:Int),List.replicate (Int.toNat (↑(List.length (Zv.ZlA b)):Int)) (0:Int),List.replicate (Int.toNat (↑(List.length (Zv.ZlA b)):Int)) (([]:List Int)),()))
   (fun k v=>v.1=(k:Int)∧Stand (Zv.Design b) (Zv.ZlA b).length k v.2.1 v.2.2.1)
   (fun r=>∃ r',r=.inr r'∧Zb0.places r'=places (Zv.Design b)∧Zb0.Block r'=b∧Zb0.links r'=ZGm b∧Zb0.loads r'=(List.range (Zv.ZlA b).length).map (ldF b)∧Zb0.Zoo r'=(List.range (Zv.ZlA b).length).map (edF b)∧Zb0.extras r'=[])
   ⟨rfl,by simp,by simp,fun v q y _ hq=>by omega,fun v hv=>by
    rw [List.take_zero]
    simp only [cat]
    rw [List.getElem?_replicate,if_pos (by omega)]⟩
   (by
    rintro k x ⟨i,l0,l1,⟨⟩⟩ hx hk ⟨hi,hS⟩
    simp only at hi hS
    subst hi
    have hn:=Zp0 hD (List.mem_of_getElem? hx)
    have hn1:=hn.2
    have hn00:0≤x.2.2.1:=hn.1
    have htn:Zbl.net x=x.2.2.1:=rfl
    simp only [ZGU,show (k:Int)<((places (Zv.Design b)).length:Int) from by omega,if_true,VU,hx,Bq]
    have hn0:=hS.n0
    have hn2:=hS.n1
    obtain ⟨q,hq1,_⟩:=ZFx (l:=l0) hn.1 (by omega)
    obtain ⟨p,hp1,_⟩:=ZFx (l:=l1) hn.1 (by omega)
    have hpv:p=cat (Zg9 x.2.2.1) 0 ((places (Zv.Design b)).take k):=by
     have e:=hS.snk (x.2.2.1).toNat (by omega)
     have e2:l1[(x.2.2.1).toNat]?=some p:=by
      have:=hp1
      unfold atI at this
      rw [if_pos hn.1] at this
      exact this
     rw [e] at e2
     injection e2 with e2
     rw [←e2,show (((x.2.2.1).toNat:Nat):Int)=x.2.2.1 by omega]
    have hpl2:p.length≤78:=by
     rw [hpv]
     have:=Zgm x.2.2.1 ((places (Zv.Design b)).take k) 0
     rw [List.length_take] at this
     omega
    by_cases hd:x.2.2.2.1=true
    ·rw [if_pos hd,show atI l0 (Zbl.net x)=some q from hq1,Bq]
     refine ⟨_,rfl,by simp only;rw [Zkd (by omega)],?_,?_,?_,?_⟩
     ·simp [hn0]
     ·exact hn2
     ·intro v p' y hv hp' hy hdy
      simp only
      rw [List.getElem?_set]
      by_cases hnet:(Zbl.net x).toNat=v
      ·rw [if_pos hnet,if_pos (by omega)]
       obtain ⟨q',_,_,_,_,uniq⟩:=ZIZ hD hsd (v:=v) (by omega)
       have hxd:ZIY (v:Int) x=true:=by
        unfold ZIY
        have:x.2.2.1=(v:Int):=by rw [←hnet];show x.2.2.1=((x.2.2.1).toNat:Int);omega
        simp [this,hd]
       have e1:=uniq k x hx hxd
       have e2:=uniq p' y hy hdy
       rw [e1,e2]
      ·rw [if_neg hnet]
       have hpk:p'≠k:=by
        intro e
        subst e
        rw [hx] at hy
        injection hy with hy
        subst hy
        unfold ZIY at hdy
        simp only [Bool.and_eq_true,decide_eq_true_eq] at hdy
        exact hnet (by show (x.2.2.1).toNat=v;omega)
       exact hS.drv v p' y hv (by omega) hy hdy
     ·intro v hv
      simp only
      rw [hS.snk v hv,Zkj hx]
      congr 1
      have:Zg9 (v:Int) k x=[]:=by
       unfold Zg9
       rw [if_pos hd]
       split<;>rfl
      rw [this,List.append_nil]
    ·rw [if_neg hd,show atI l1 (Zbl.net x)=some p from hp1,Bq,ZB (by simp;omega)]
     refine ⟨_,rfl,by simp only;rw [Zkd (by omega)],hn0,?_,?_,?_⟩
     ·simp [hn2]
     ·intro v p' y hv hp' hy hdy
      have hpk:p'≠k:=by
       intro e
       subst e
       rw [hx] at hy
       injection hy with hy
       subst hy
       unfold ZIY at hdy
       simp only [Bool.and_eq_true] at hdy
       exact hd hdy.2
      exact hS.drv v p' y hv (by omega) hy hdy
     ·intro v hv
      simp only
      rw [List.getElem?_set,Zkj hx]
      by_cases hnet:(Zbl.net x).toNat=v
      ·have hxv:x.2.2.1=(v:Int):=by rw [←hnet];show x.2.2.1=((x.2.2.1).toNat:Int);omega
       rw [if_pos hnet,if_pos (by omega),hpv,hxv]
       unfold Zg9
       rw [if_pos hxv,if_neg hd]
      ·have hxv:¬x.2.2.1=(v:Int):=fun e=>hnet (by show (x.2.2.1).toNat=v;omega)
       rw [if_neg hnet,hS.snk v hv]
       have:Zg9 (v:Int) k x=[]:=by unfold Zg9;rw [if_neg hxv]
       rw [this,List.append_nil])
   (by
    rintro ⟨i,l0,l1,⟨⟩⟩ ⟨hi,hS⟩
    simp only at hi hS
    subst hi
    simp only [ZGU,Int.lt_irrefl,if_false]
    have hS0:=hS.n0
    obtain ⟨r,hr1,r',rfl,hr2⟩:=ZFy (l:=Zv.ZlA b) (ρ:=(Int×List Int×List (List Int)×Unit) ⊕ ((Int×Int×List Ze4×Unit) ⊕ Zb0)) (step:=fun v=>ZGT b (places (Zv.Design b)) l0 v.1 v.2.1 v.2.2.1 v.2.2.2.1 v.2.2.2.2.1) (v:=((0:Int),([]:List Int),([]:List (List Int)),c0,l1,()))
     (fun k v=>v.1=(k:Int)∧v.2.1=(List.range k).map (ldF b)∧v.2.2.1=(List.range k).map (edF b)∧v.2.2.2.1=c0++cat (fun v _=>ZJS (Zv.Design b) (v:Int)) 0 ((Zv.ZlA b).take k)∧v.2.2.2.2.1=l1)
     (fun r=>∃ r',r=.inr (.inr r')∧Zb0.places r'=places (Zv.Design b)∧Zb0.Block r'=b∧Zb0.links r'=ZGm b∧Zb0.loads r'=(List.range (Zv.ZlA b).length).map (ldF b)∧Zb0.Zoo r'=(List.range (Zv.ZlA b).length).map (edF b)∧Zb0.extras r'=[])
     ⟨rfl,rfl,rfl,by simp [cat],rfl⟩
     (by
      rintro k w ⟨i,c1,c2,c3,l2,⟨⟩⟩ hw hk ⟨hi,g1,g2,g3,g4⟩
      simp only at hi g1 g2 g3 g4
      subst hi
      subst g4
      have hc3:c3.length≤5200:=by
       have:=ZHZ h ((Zv.ZlA b).take k)
       rw [List.length_take] at this
       rw [g3,List.length_append];omega
      obtain ⟨nl,hnl,hnl2⟩:=ZH5 h hw
      obtain ⟨ed,hed,hed2⟩:=ZIe h hw
      have hpar:=(h.ok.2.2 k w hw).1.1
      have g1l:c1.length=k:=by rw [g1];simp
      have g2l:c2.length=k:=by rw [g2];simp
      have hld:ldF b k=nl[0]:=by
       unfold ldF
       rw [hnl,Bq,List.getElem?_eq_getElem (by omega)]
       rfl
      have hedf:edF b k=ed:=by
       unfold edF
       rw [hed]
       rfl
      have hn0:atI nl (0:Int)=some nl[0]:=(show nl[0]?=some nl[0] from List.getElem?_eq_getElem (by omega))
      have hl2:=hS.snk k hk
      rw [List.take_length] at hl2
      obtain ⟨dq,dy,hdq,hdy,hdo,_⟩:=ZIZ hD hsd (v:=k) (by omega)
      have hl0:=hS.drv k dq dy hk (List.getElem?_eq_some_iff.1 hdq).1 hdq hdy
      have hdl:=(List.getElem?_eq_some_iff.1 hdq).1
      have hl2':l2[k]?=some (sinks (Zv.Design b) (k:Int)):=hl2
      have hsl:(sinks (Zv.Design b) (k:Int)).length≤78:=by
       have:=Zgm (k:Int) (places (Zv.Design b)) 0
       unfold sinks;omega
      simp only [ZGT,show (k:Int)<((Zv.ZlA b).length:Int) from by omega,if_true,hnl,hn0,hed,Bq,VU,hl2']
      rw [ZB (by simp;omega),ZB (by simp;omega)]
      obtain ⟨r,hr1,r',rfl,hr2⟩:=ZFy (l:=sinks (Zv.Design b) (k:Int)) (ρ:=(Int×List Int×List (List Int)×List Ze4×List (List Int)×Unit) ⊕ ((Int×List Int×List (List Int)×Unit) ⊕ ((Int×Int×List Ze4×Unit) ⊕ Zb0))) (step:=fun v=>ZGS l0 (k:Int) c1 c2 l2 nl[0] ed (sinks (Zv.Design b) (k:Int)) v.1 v.2.1) (v:=((0:Int),c3,()))
       (fun m v=>v.1=(m:Int)∧v.2.1=c3++cat (fun j s=>[ZG7 (ZHV (Zv.Design b) (k:Int)) s 0 0 2 (j:Int),ZG7 (ZHV (Zv.Design b) (k:Int)) s 1 1 2 (j:Int)]) 0 ((sinks (Zv.Design b) (k:Int)).take m))
       (fun r=>∃ r',r=.inl r'∧r'.1=((k+1:Nat):Int)∧r'.2.1=(List.range (k+1)).map (ldF b)∧r'.2.2.1=(List.range (k+1)).map (edF b)∧r'.2.2.2.1=c0++cat (fun v _=>ZJS (Zv.Design b) (v:Int)) 0 ((Zv.ZlA b).take (k+1))∧r'.2.2.2.2.1=l2)
       ⟨rfl,by simp [cat]⟩
       (by
        rintro m y ⟨i,c4,⟨⟩⟩ hy hm ⟨hi,gc⟩
        simp only at hi gc
        subst hi
        have hyb:=ZFv (List.mem_of_getElem? hy)
        have hc4:c4.length≤6000:=by
         have:=Zb1 (f:=fun j s=>[ZG7 (ZHV (Zv.Design b) (k:Int)) s 0 0 2 (j:Int),ZG7 (ZHV (Zv.Design b) (k:Int)) s 1 1 2 (j:Int)]) (c:=2) (l:=(sinks (Zv.Design b) (k:Int)).take m) (m:=0) (fun _ _ _=>by simp)
         rw [List.length_take] at this
         rw [gc,List.length_append];omega
        simp only [ZGS,show (m:Int)<((sinks (Zv.Design b) (k:Int)).length:Int) from by omega,if_true,VU,hy,Bq]
        have st:∀ (j:Nat) (c5:List Ze4),j<2→c5.length≤6100→ZGF l0 (k:Int) (m:Int) y (j:Int) c5=some (.inl (((j+1:Nat):Int),c5++[ZG7 (dq:Int) y (j:Int) (j:Int) 2 (m:Int)],())):=by
         intro j c5 hj hc5
         simp only [ZGF,show (j:Int)<(2:Int) from by omega,if_true,VU,hl0,Bq]
         rw [ZB (by simp;omega),XD (n:=2*(dq:Int)) (by omega) (by omega),XD (n:=2*(dq:Int)+(j:Int)) (by omega) (by omega),XD (n:=2*y) (by omega) (by omega),XD (n:=2*y+(j:Int)) (by omega) (by omega),Zkd (by omega)]
         rfl
        have s0:=st 0 c4 (by omega) (by omega)
        have s1:=st 1 (c4++[ZG7 (dq:Int) y ((0:Nat):Int) ((0:Nat):Int) 2 (m:Int)]) (by omega) (by simp;omega)
        have hw2:ZA (fun v=>ZGF l0 (k:Int) (m:Int) y v.1 v.2.1) ((0:Int),c4,())=some (.inl (((m+1:Nat):Int),c4++[ZG7 (dq:Int) y ((0:Nat):Int) ((0:Nat):Int) 2 (m:Int)]++[ZG7 (dq:Int) y ((1:Nat):Int) ((1:Nat):Int) 2 (m:Int)],())):=by
         rw [ZgA (v':=(((0+1:Nat):Int),c4++[ZG7 (dq:Int) y ((0:Nat):Int) ((0:Nat):Int) 2 (m:Int)],())) s0,ZgA (v':=(((1+1:Nat):Int),c4++[ZG7 (dq:Int) y ((0:Nat):Int) ((0:Nat):Int) 2 (m:Int)]++[ZG7 (dq:Int) y ((1:Nat):Int) ((1:Nat):Int) 2 (m:Int)],())) s1,Zct]
         simp only [ZGF]
         rw [if_neg (by omega),Zkd (by omega)]
        refine ⟨_,hw2,rfl,?_⟩
        simp only
        rw [gc,Zkj hy,hdo]
        simp only [List.append_assoc,List.cons_append,List.nil_append,Int.natCast_zero,Int.natCast_one])
       (by
        rintro ⟨i,c4,⟨⟩⟩ ⟨hi,gc⟩
        simp only at hi gc
        subst hi
        rw [List.take_length] at gc
        simp only [ZGS,Int.lt_irrefl,if_false]
        refine ⟨_,rfl,_,rfl,by simp only;rw [Zkd (by omega)],by simp only;rw [g1,List.range_succ,List.map_append,List.map_singleton,hld],by simp only;rw [g2,List.range_succ,List.map_append,List.map_singleton,hedf],?_,?_⟩
        ·simp only
         rw [gc,g3,Zkj hw,List.append_assoc]
         rfl
        ·simp only
         apply List.ext_getElem?
         intro i
         rw [List.getElem?_set]
         split
         ·rename_i e
          have e:k=i:=by simpa using e
          subst e
          rw [hl2']
          split
          ·rfl
          ·rename_i hlt
           exact absurd (by have:=hS.n1;simpa using (show k<l2.length by omega)) hlt
         ·rfl)
      exact ⟨r',hr1,hr2⟩)
     (by
      rintro ⟨i,c1,c2,c3,l2,⟨⟩⟩ ⟨hi,g1,g2,g3,g4⟩
      simp only at hi g3
      subst hi
      rw [List.take_length] at g3
      simp only [ZGT,Int.lt_irrefl,if_false]
      refine ⟨_,rfl,_,rfl,rfl,rfl,?_,g1,g2,rfl⟩
      show c3=ZGm b
      rw [g3,hc0];rfl)
    exact ⟨_,hr1,_,rfl,hr2⟩)
  exact ⟨r',hr1,hr2⟩
theorem ZIr {b:Zv} (h:ZqJ b):∃ v,ZHw b=some v∧Zb0.places v=places (Zv.Design b)∧Zb0.Block v=b∧Zb0.links v=ZGm b:=by
 obtain ⟨v,h1,h2,h3,h4,_⟩:=ZIS h
 exact ⟨v,h1,h2,h3,h4⟩
/-
  Plain laws: what is reached through live links, by the queue.
-/
def Live (L:List Ze4) (lv:List Bool) (a c:Int):Prop:=∃ (k:Nat) (l:Ze4),L[k]?=some l∧lv[k]?=some true∧Ze4.From l=a∧Ze4.To l=c
inductive Rch (L:List Ze4) (lv:List Bool) (S:Int→Prop):Int→Prop
 | base {a:Int}:S a→Rch L lv S a
 | step {a c:Int}:Rch L lv S a→Live L lv a c→Rch L lv S c
theorem Rch.sub {L:List Ze4} {lv:List Bool} {S T:Int→Prop} (h0:∀ a,S a→T a) (h1:∀ a c,T a→Live L lv a c→T c) {a:Int} (h:Rch L lv S a):T a:=by
 induction h with
 | base h=>exact h0 _ h
 | step _ hl ih=>exact h1 _ _ ih hl
theorem Rch.mono {L:List Ze4} {lv:List Bool} {S T:Int→Prop} (h0:∀ a,S a→T a) {a:Int} (h:Rch L lv S a):Rch L lv T a:=h.sub (fun a ha=>.base (h0 a ha)) (fun a c ha hl=>.step ha hl)
def wt:List (List Int)→List Bool→Nat
 | x::xs,b::bs=>(if b=true then 0 else 1+x.length)+wt xs bs
 | _,_=>0
theorem ZKb:∀ (l1:List (List Int)) (l2:List Bool) (i:Nat) (x:List Int),l1[i]?=some x→l2[i]?=some false→wt l1 (l2.set i true)+(1+x.length)=wt l1 l2
 | [],_,_,_,h,_=>by simp at h
 | _::_,[],_,_,_,h=>by simp at h
 | y::l1,b::l2,0,x,h1,h2=>by
  simp at h1 h2
  subst h1;subst h2
  simp [wt];omega
 | y::l1,b::l2,i+1,x,h1,h2=>by
  have:=ZKb l1 l2 i x (by simpa using h1) (by simpa using h2)
  simp only [List.set_cons_succ,wt]
  omega
theorem ZKj:∀ (l1:List (List Int)) (l2:List Bool) (m:Nat),(∀ x∈l1,x.length≤m)→wt l1 l2≤(1+m)*l1.length
 | [],_,_,_=>by simp [wt]
 | _::_,[],_,_=>by simp [wt]
 | y::l1,b::l2,m,h=>by
  have h1:=ZKj l1 l2 m (fun x hx=>h x (by simp [hx]))
  have h2:=h y (by simp)
  simp only [wt,List.length_cons,Nat.mul_add,Nat.mul_one]
  have h3:(if b=true then 0 else 1+y.length)≤1+m:=by split<;>omega
  simp only [Nat.add_mul,Nat.one_mul] at h1 ⊢
  omega
theorem ZKm {α:Type} {l:List α} {i:Nat} {x:α} (h:l[i]?=some x):l.set i x=l:=by
 apply List.ext_getElem?
 intro j
 rw [List.getElem?_set]
 split
 ·rename_i e
  subst e
  rw [h,if_pos (List.getElem?_eq_some_iff.1 h).1]
 ·rfl
def InN (N:Nat) (L:List Ze4):Prop:=∀ l∈L,(0≤Ze4.From l∧Ze4.From l<(N:Int))∧(0≤Ze4.To l∧Ze4.To l<(N:Int))
structure ZKl (N:Nat) (L:List Ze4) (lv:List Bool) (k:Nat) (nx:List (List Int)):Prop where
 len:nx.length=N
 short:∀ x∈nx,x.length≤k
 mem:∀ (a:Nat) (x:List Int),nx[a]?=some x→∀ c,c∈x↔∃ (j:Nat) (l:Ze4),j<k∧L[j]?=some l∧lv[j]?=some true∧Ze4.From l=(a:Int)∧Ze4.To l=c
theorem ZIs {g:Zhf} {nodes:List Int} {N:Nat} (hN:(N:Int)=2*((Zb0.places (Zhf.view g)).length:Int)) (hNs:N≤1000) (hL:InN N (Zb0.links (Zhf.view g))) (hLs:(Zb0.links (Zhf.view g)).length≤6000)
  (hlv:(Zhf.live g).length=(Zb0.links (Zhf.view g)).length) (hn:∀ a∈nodes,0≤a∧a<(N:Int)) (hnl:nodes.length≤1048576) :
  ∃ r,ZGk g nodes ()=some r∧r.length=N∧∀ (a:Nat) (b:Bool),r[a]?=some b→(b=true↔Rch (Zb0.links (Zhf.view g)) (Zhf.live g) (fun a=>a∈nodes) (a:Int)):=by
 generalize hLL:Zb0.links (Zhf.view g)=L at *
 unfold ZGk ZGI
 rw [show ZrV (Zb0.places (Zhf.view g))=some ((Zb0.places (Zhf.view g)).length:Int) from rfl,Bq,Bq,←hN,XD (n:=(N:Int)) (by omega) (by omega),ZB (by omega),ZB (by omega),ZB (by omega),ZB (by omega)]
 refine ZFy (l:=L) (fun k v=>v.1=(k:Int)∧ZKl N L (Zhf.live g) k v.2.1) _ ⟨rfl,by simp,fun x hx=>by
  rw [List.mem_replicate] at hx;rw [hx.2];simp,fun a x hx c=>by
  rw [List.getElem?_replicate] at hx
  split at hx
  ·injection hx with hx
   subst hx
   constructor
   ·intro h;cases h
   ·rintro ⟨j,_,hj,_⟩;omega
  ·cases hx⟩ ?_ ?_
 ·rintro k l ⟨i,nx,⟨⟩⟩ hl hk ⟨hi,hS⟩
  simp only at hi hS
  subst hi
  have hlb:=hL l (List.mem_of_getElem? hl)
  have hlv1:(Zhf.live g)[k]?=some (Zhf.live g)[k]:=List.getElem?_eq_getElem (by omega)
  generalize (Zhf.live g)[k]=bl at hlv1
  have hnl2:=hS.len
  obtain ⟨x,hx1,hxm⟩:=ZFx (l:=nx) hlb.1.1 (by omega)
  have hxa:nx[(Ze4.From l).toNat]?=some x:=by
   have:=hx1
   unfold atI at this
   rw [if_pos hlb.1.1] at this
   exact this
  have hsh:=hS.short x hxm
  simp only [ZGo,hLL,show (k:Int)<(L.length:Int) from by omega,if_true,VU,hl,ZHI,hlv1,hx1,Bq]
  by_cases hb:bl=true
  ·rw [if_pos hb,ZB (by simp;omega),Zkd (by omega)]
   subst hb
   refine ⟨_,rfl,rfl,by simp [hnl2],?_,?_⟩
   ·intro y hy
    rcases List.mem_or_eq_of_mem_set hy with hy | rfl
    ·have:=hS.short y hy;omega
    ·simp;omega
   ·intro a y hy c
    simp only at hy
    rw [List.getElem?_set] at hy
    split at hy
    ·rename_i ea
     rw [if_pos (by omega)] at hy
     injection hy with hy
     subst hy
     rw [List.mem_append,List.mem_singleton,hS.mem _ x hxa c]
     constructor
     ·rintro (⟨j,l',h1,h2,h3,h4,h5⟩ | rfl)
      ·exact ⟨j,l',by omega,h2,h3,by omega,h5⟩
      ·exact ⟨k,l,by omega,hl,hlv1,by omega,rfl⟩
     ·rintro ⟨j,l',h1,h2,h3,h4,h5⟩
      by_cases hjk:j=k
      ·subst hjk
       rw [hl] at h2;injection h2 with h2;subst h2
       exact .inr h5.symm
      ·exact .inl ⟨j,l',by omega,h2,h3,by omega,h5⟩
    ·rename_i ea
     rw [hS.mem a y hy c]
     constructor
     ·rintro ⟨j,l',h1,h2,h3,h4,h5⟩;exact ⟨j,l',by omega,h2,h3,h4,h5⟩
     ·rintro ⟨j,l',h1,h2,h3,h4,h5⟩
      by_cases hjk:j=k
      ·subst hjk
       rw [hl] at h2;injection h2 with h2;subst h2
       exact absurd (by omega) ea
      ·exact ⟨j,l',by omega,h2,h3,h4,h5⟩
  ·rw [if_neg hb,Zkd (by omega)]
   have hbf:bl=false:=by simpa using hb
   subst hbf
   refine ⟨_,rfl,rfl,hnl2,fun y hy=>by have:=hS.short y hy;omega,fun a y hy c=>?_⟩
   rw [hS.mem a y hy c]
   constructor
   ·rintro ⟨j,l',h1,h2,h3,h4,h5⟩;exact ⟨j,l',by omega,h2,h3,h4,h5⟩
   ·rintro ⟨j,l',h1,h2,h3,h4,h5⟩
    by_cases hjk:j=k
    ·subst hjk;rw [hlv1] at h3;cases h3
    ·exact ⟨j,l',by omega,h2,h3,h4,h5⟩
 ·rintro ⟨i,nx,⟨⟩⟩ ⟨hi,hS⟩
  simp only at hi hS
  subst hi
  have hnl2:=hS.len
  simp only [ZGo,hLL,Int.lt_irrefl,if_false]
  unfold Zpk
  rw [ZB (by omega),ZB (by simp;omega),Bq]
  have hmemL:∀ (a:Nat) (x:List Int),nx[a]?=some x→∀ c,c∈x↔Live L (Zhf.live g) (a:Int) c:=by
   intro a x hx c
   rw [hS.mem a x hx c]
   constructor
   ·rintro ⟨j,l',h1,h2,h3,h4,h5⟩;exact ⟨j,l',h2,h3,h4,h5⟩
   ·rintro ⟨j,l',h2,h3,h4,h5⟩;exact ⟨j,l',(List.getElem?_eq_some_iff.1 h2).1,h2,h3,h4,h5⟩
  have hw0:=ZKj nx (List.replicate N false) L.length hS.short
  have hmul:(1+L.length)*nx.length≤6001*1000:=Nat.mul_le_mul (by omega) (by omega)
  have:=ZeX (σ:=List Int×List (List Int)×List Bool×Unit) (ρ:=(Int×List (List Int)×Unit) ⊕ List Bool) (step:=fun v=>ZGn v.1 v.2.1 v.2.2.1)
   (fun v=>v.2.1=nx∧v.2.2.1.length=N∧v.1.length+wt nx v.2.2.1≤8000000∧
    (∀ a∈v.1,0≤a∧a<(N:Int)∧Rch L (Zhf.live g) (fun a=>a∈nodes) a)∧
    (∀ (a:Nat),v.2.2.1[a]?=some true→Rch L (Zhf.live g) (fun a=>a∈nodes) (a:Int))∧
    (∀ a∈nodes,a∈v.1∨v.2.2.1[a.toNat]?=some true)∧
    (∀ (a:Nat) (c:Int),v.2.2.1[a]?=some true→Live L (Zhf.live g) (a:Int) c→c∈v.1∨v.2.2.1[c.toNat]?=some true))
   (fun v=>v.1.length+wt nx v.2.2.1)
   (fun r=>∃ r',r=.inr r'∧r'.length=N∧∀ (a:Nat) (b:Bool),r'[a]?=some b→(b=true↔Rch L (Zhf.live g) (fun a=>a∈nodes) (a:Int)))
   (v:=([]++nodes,nx,List.replicate (Int.toNat (N:Int)) false,()))
   ⟨rfl,by simp,by simp only [List.nil_append,Int.toNat_natCast];omega,fun a ha=>by
     simp only [List.nil_append] at ha
     exact ⟨(hn a ha).1,(hn a ha).2,.base ha⟩,fun a ha=>(by
     simp only [Int.toNat_natCast] at ha
     rw [List.getElem?_replicate] at ha
     split at ha<;>cases ha),fun a ha=>.inl (by simpa using ha),fun a c ha _=>(by
     simp only [Int.toNat_natCast] at ha
     rw [List.getElem?_replicate] at ha
     split at ha<;>cases ha)⟩
   (by
    rintro ⟨op,nx',rc,⟨⟩⟩ ⟨e1,e2,e3,e4,e5,e6,e7⟩
    simp only at e1 e2 e3 e4 e5 e6 e7
    subst e1
    simp only [ZGn]
    cases op with
    | nil =>
     rw [if_neg (by simp)]
     refine .inr ⟨_,rfl,rc,rfl,e2,fun a b hb=>?_⟩
     constructor
     ·intro h;subst h;exact e5 a hb
     ·intro h
      have hall:∀ c:Int,Rch L (Zhf.live g) (fun a=>a∈nodes) c→(0≤c∧rc[c.toNat]?=some true):=by
       intro c hc
       refine hc.sub (T:=fun c=>0≤c∧rc[c.toNat]?=some true) (fun a ha=>⟨(hn a ha).1,?_⟩) (fun a c ha hl=>?_)
       ·rcases e6 a ha with h | h
        ·cases h
        ·exact h
       ·obtain ⟨k,l,h1,_,_,h4⟩:=id hl
        have hb2:=hL l (List.mem_of_getElem? h1)
        have hl':Live L (Zhf.live g) ((a.toNat:Nat):Int) c:=by rw [show ((a.toNat:Nat):Int)=a by omega];exact hl
        rcases e7 a.toNat c ha.2 hl' with h | h
        ·cases h
        ·exact ⟨by omega,h⟩
      have:=(hall (a:Int) h).2
      rw [Int.toNat_natCast,hb] at this
      injection this
    | cons x0 rest =>
     obtain ⟨hx0,hxN,hxR⟩:=e4 x0 (by simp)
     have hdr:List.take (Int.toNat (((x0::rest).length:Nat):Int)-Int.toNat (1:Int)) (List.drop (Int.toNat (1:Int)) (x0::rest))=rest:=by simp
     obtain ⟨b0,hb1,_⟩:=ZFx (l:=rc) hx0 (by omega)
     have hba:rc[x0.toNat]?=some b0:=by
      have:=hb1
      unfold atI at this
      rw [if_pos hx0] at this
      exact this
     rw [if_pos (by simp only [List.length_cons];omega),show atI (x0::rest) (0:Int)=some x0 from rfl,Bq,ZB (by simp only [List.length_cons];omega),ZB (by omega),hb1,Bq]
     simp only [hdr]
     simp only [List.length_cons] at e3
     by_cases hb:b0=true
     ·subst hb
      rw [if_pos rfl]
      refine .inl ⟨_,rfl,⟨rfl,e2,by simp only;omega,fun a ha=>e4 a (by simp [ha]),e5,fun a ha=>?_,fun a c ha hl=>?_⟩,by simp only [List.length_cons];omega⟩
      ·rcases e6 a ha with h | h
       ·rcases List.mem_cons.1 h with h | h
        ·subst h;exact .inr hba
        ·exact .inl h
       ·exact .inr h
      ·rcases e7 a c ha hl with h | h
       ·rcases List.mem_cons.1 h with h | h
        ·subst h;exact .inr hba
        ·exact .inl h
       ·exact .inr h
     ·have hbf:b0=false:=by simpa using hb
      subst hbf
      obtain ⟨x2,hx2,hx2m⟩:=ZFx (l:=nx') hx0 (by omega)
      have hxa:nx'[x0.toNat]?=some x2:=by
       have:=hx2
       unfold atI at this
       rw [if_pos hx0] at this
       exact this
      have hwt:=ZKb nx' rc x0.toNat x2 hxa hba
      have hx0n:((x0.toNat:Nat):Int)=x0:=by omega
      rw [if_neg hb,hx2,Bq,ZB (by omega),ZKm hxa]
      have up:∀ a:Nat,rc[a]?=some true→(rc.set x0.toNat true)[a]?=some true:=by
       intro a ha
       rw [List.getElem?_set]
       split
       ·rw [if_pos (by omega)]
       ·exact ha
      have at0:(rc.set x0.toNat true)[x0.toNat]?=some true:=by rw [List.getElem?_set_self (by omega)]
      refine .inl ⟨_,rfl,⟨rfl,by simp [e2],by simp only [List.length_append];omega,fun a ha=>?_,fun a ha=>?_,fun a ha=>?_,fun a c ha hl=>?_⟩,by simp only [List.length_append,List.length_cons];omega⟩
      ·rcases List.mem_append.1 ha with ha | ha
       ·exact e4 a (by simp [ha])
       ·have hl:=(hmemL _ x2 hxa a).1 ha
        rw [hx0n] at hl
        obtain ⟨k,l,h1,_,_,h4⟩:=id hl
        have hb2:=hL l (List.mem_of_getElem? h1)
        exact ⟨by omega,by omega,.step hxR hl⟩
      ·simp only at ha
       rw [List.getElem?_set] at ha
       split at ha
       ·rename_i e;rw [←e,hx0n];exact hxR
       ·exact e5 a ha
      ·rcases e6 a ha with h | h
       ·rcases List.mem_cons.1 h with h | h
        ·subst h;exact .inr at0
        ·exact .inl (by simp [h])
       ·exact .inr (up _ h)
      ·simp only at ha
       rw [List.getElem?_set] at ha
       split at ha
       ·rename_i e
        subst e
        exact .inl (by simp only [List.mem_append];exact .inr ((hmemL _ x2 hxa c).2 hl))
       ·rcases e7 a c ha hl with h | h
        ·rcases List.mem_cons.1 h with h | h
         ·subst h;exact .inr at0
         ·exact .inl (by simp [h])
        ·exact .inr (up _ h))
  obtain ⟨r,h1,r',rfl,h3⟩:=this
  exact ⟨r',h1,h3⟩
/-
  Plain laws: what is reached through live links, by rounds; cones.
-/
def cf (l:List Bool):Nat:=l.countP (fun b=>!b)
theorem ZJ5:∀ (l:List Bool) (i:Nat),l[i]?=some false→cf (l.set i true)+1=cf l
 | [],_,h=>by simp at h
 | b::l,0,h=>by simp at h;subst h;simp [cf]
 | b::l,i+1,h=>by
  have:=ZJ5 l i (by simpa using h)
  unfold cf at this ⊢
  simp only [List.set_cons_succ,List.countP_cons]
  omega
theorem bat {l:List Bool} {i:Int} {b:Bool} (h:atI l i=some b) (h0:0≤i):l[i.toNat]?=some b:=by
 unfold atI at h
 rw [if_pos h0] at h
 exact h
theorem ZKi {l:List Bool} {i:Nat} (a:Nat) (h:l[a]?=some true):(l.set i true)[a]?=some true:=by
 rw [List.getElem?_set]
 split
 ·have:=(List.getElem?_eq_some_iff.1 h).1
  rw [if_pos (by omega)]
 ·exact h
def Closed (L:List Ze4) (lv:List Bool) (k:Nat) (s:List Bool):Prop:=∀ (j:Nat) (l:Ze4),j<k→L[j]?=some l→lv[j]?=some true→s[(Ze4.From l).toNat]?=some true→s[(Ze4.To l).toNat]?=some true
structure ZKk (N:Nat) (L:List Ze4) (lv:List Bool) (S:Int→Prop) (k:Nat) (s0:List Bool) (ch:Bool) (s:List Bool):Prop where
 len:s.length=N
 snd:∀ a:Nat,s[a]?=some true→Rch L lv S (a:Int)
 up:∀ a:Nat,s0[a]?=some true→s[a]?=some true
 still:ch=false→s=s0∧Closed L lv k s0
 less:cf s+(if ch=true then 1 else 0)≤cf s0
theorem round_eq {N:Nat} {L:List Ze4} {lv:List Bool} {S:Int→Prop} (hL:InN N L) (hLs:L.length≤6000) (hlv:lv.length=L.length) {s0:List Bool} (h0:s0.length=N) (hs0:∀ a:Nat,s0[a]?=some true→Rch L lv S (a:Int)) :
  ∃ ch s,ZA (fun v=>ZGp L lv true v.1 v.2.1 v.2.2.1) (false,(0:Int),s0,())=some (.inl (ch,s,()))∧ZKk N L lv S L.length s0 ch s:=by
 obtain ⟨r,h1,ch,s,rfl,h3⟩:=ZFy (l:=L) (ρ:=(Bool×List Bool×Unit) ⊕ List Bool) (step:=fun v=>ZGp L lv true v.1 v.2.1 v.2.2.1) (v:=(false,(0:Int),s0,()))
  (fun k v=>v.2.1=(k:Int)∧ZKk N L lv S k s0 v.1 v.2.2.1) (fun r=>∃ ch s,r=.inl (ch,s,())∧ZKk N L lv S L.length s0 ch s)
  ⟨rfl,h0,hs0,fun a h=>h,fun _=>⟨rfl,fun j l hj=>by omega⟩,by simp⟩
  (by
   rintro k l ⟨ch,i,s,⟨⟩⟩ hl hk ⟨hi,hR⟩
   simp only at hi hR
   subst hi
   have hlb:=hL l (List.mem_of_getElem? hl)
   have hsl:=hR.len
   have hlv1:lv[k]?=some lv[k]:=List.getElem?_eq_getElem (by omega)
   generalize lv[k]=bl at hlv1
   obtain ⟨x3,hx3,_⟩:=ZFx (l:=s) hlb.1.1 (by omega)
   obtain ⟨x4,hx4,_⟩:=ZFx (l:=s) hlb.2.1 (by omega)
   have hb3:=bat hx3 hlb.1.1
   have hb4:=bat hx4 hlb.2.1
   simp only [ZGp,show (k:Int)<(L.length:Int) from by omega,if_true,VU,hl,hlv1,hx3,hx4,Bq]
   have keep:(bl=true→x3=true→x4=true)→ZKk N L lv S (k+1) s0 ch s:=fun hcl=>⟨hR.len,hR.snd,hR.up,fun hch=>by
    obtain ⟨e1,e2⟩:=hR.still hch
    refine ⟨e1,fun j l' hj hl' hlv' hfr=>?_⟩
    by_cases hjk:j=k
    ·subst hjk
     rw [hl] at hl';injection hl' with hl';subst hl'
     rw [hlv1] at hlv';injection hlv' with hlv'
     subst e1
     rw [hb3] at hfr;injection hfr with hfr
     rw [hb4,hcl hlv' hfr]
    ·exact e2 j l' (by omega) hl' hlv' hfr,hR.less⟩
   by_cases hbl:bl=true
   ·subst hbl
    by_cases h3:x3=true
    ·subst h3
     by_cases h4:x4=true
     ·subst h4
      simp only [if_true]
      exact ⟨_,rfl,by simp only;rw [Zkd (by omega)],keep (fun _ _=>rfl)⟩
     ·have h4f:x4=false:=by simpa using h4
      subst h4f
      simp only [if_true,Bool.false_eq_true,if_false]
      have hcf:=ZJ5 s (Ze4.To l).toNat hb4
      have hless:=hR.less
      refine ⟨_,rfl,by simp only;rw [Zkd (by omega)],by simp [hsl],fun a ha=>?_,fun a ha=>ZKi a (hR.up a ha),fun h=>(by cases h),?_⟩
      ·simp only at ha
       rw [List.getElem?_set] at ha
       split at ha
       ·rename_i e
        rw [←e,show (((Ze4.To l).toNat:Nat):Int)=Ze4.To l by omega]
        have hfr:=hR.snd _ hb3
        rw [show (((Ze4.From l).toNat:Nat):Int)=Ze4.From l by omega] at hfr
        exact .step hfr ⟨k,l,hl,hlv1,rfl,rfl⟩
       ·exact hR.snd a ha
      ·simp only [if_true]
       have:(if ch=true then 1 else 0)≤1:=by split<;>omega
       omega
    ·have h3f:x3=false:=by simpa using h3
     subst h3f
     simp only [if_true,Bool.false_eq_true,if_false]
     exact ⟨_,rfl,by simp only;rw [Zkd (by omega)],keep (fun _ h=>by cases h)⟩
   ·have hblf:bl=false:=by simpa using hbl
    subst hblf
    simp only [if_true,Bool.false_eq_true,if_false]
    exact ⟨_,rfl,by simp only;rw [Zkd (by omega)],keep (fun h=>by cases h)⟩)
  (by
   rintro ⟨ch,i,s,⟨⟩⟩ ⟨hi,hR⟩
   simp only at hi hR
   subst hi
   simp only [ZGp,Int.lt_irrefl,if_false]
   exact ⟨_,rfl,ch,s,rfl,hR⟩)
 exact ⟨ch,s,h1,h3⟩
theorem ZH9 {N:Nat} {L:List Ze4} {lv:List Bool} (hNs:N≤1000) (hL:InN N L) (hLs:L.length≤6000) (hlv:lv.length=L.length) {node:Int} (hn:0≤node∧node<(N:Int)) :
  ∃ r,ZGK (N:Int) L lv node true=some r∧r.length=N∧∀ (a:Nat) (b:Bool),r[a]?=some b→(b=true↔Rch L lv (fun a=>a=node) (a:Int)):=by
 unfold ZGK
 obtain ⟨x,hx,_⟩:=ZFx (l:=List.replicate (Int.toNat (N:Int)) false) hn.1 (by simp;exact hn.2)
 rw [ZB (by omega),ZB (by omega),ZB (by omega),ZB (by omega),hx,Bq]
 have hnn:((node.toNat:Nat):Int)=node:=by omega
 have:=ZeX (σ:=Bool×List Bool×Unit) (ρ:=List Bool) (step:=fun v=>ZGt L lv true v.1 v.2.1)
  (fun v=>v.2.1.length=N∧(∀ a:Nat,v.2.1[a]?=some true→Rch L lv (fun a=>a=node) (a:Int))∧v.2.1[node.toNat]?=some true∧(v.1=false→Closed L lv L.length v.2.1))
  (fun v=>2*cf v.2.1+(if v.1=true then 1 else 0))
  (fun r=>r.length=N∧∀ (a:Nat) (b:Bool),r[a]?=some b→(b=true↔Rch L lv (fun a=>a=node) (a:Int)))
  (v:=(true,List.set (List.replicate (Int.toNat (N:Int)) false) (Int.toNat node) true,()))
  ⟨by simp,fun a ha=>(by
   simp only at ha
   rw [List.getElem?_set] at ha
   split at ha
   ·rename_i e;rw [←e];exact .base hnn
   ·rw [List.getElem?_replicate] at ha
    split at ha
    ·cases ha
    ·cases ha),(by simp only;rw [List.getElem?_set_self (by simp;omega)]),fun h=>(by cases h)⟩
  (by
   rintro ⟨ch,s,⟨⟩⟩ ⟨e1,e2,e3,e4⟩
   simp only at e1 e2 e3 e4
   simp only [ZGt]
   by_cases hc:ch=true
   ·rw [if_pos hc]
    obtain ⟨ch',s',h1,hR⟩:=round_eq hL hLs hlv e1 e2
    rw [h1]
    refine .inl ⟨_,rfl,⟨hR.len,hR.snd,hR.up _ e3,fun h=>?_⟩,?_⟩
    ·obtain ⟨e,hcl⟩:=hR.still h
     simp only
     rw [e];exact hcl
    ·have hless:=hR.less
     simp only [hc,if_true]
     by_cases hc':ch'=true
     ·simp only [hc',if_true] at hless ⊢;omega
     ·simp only [hc',if_false] at hless ⊢;omega
   ·rw [if_neg hc]
    have hcl:=e4 (by simpa using hc)
    refine .inr ⟨s,rfl,e1,fun a b hb=>?_⟩
    constructor
    ·intro h;subst h;exact e2 a hb
    ·intro h
     have hall:∀ c:Int,Rch L lv (fun a=>a=node) c→(0≤c∧s[c.toNat]?=some true):=by
      intro c hc
      refine hc.sub (T:=fun c=>0≤c∧s[c.toNat]?=some true) (fun a ha=>by subst ha;exact ⟨hn.1,e3⟩) (fun a c ha hl=>?_)
      obtain ⟨k,l,h1,h2,h3,h4⟩:=hl
      have hb2:=hL l (List.mem_of_getElem? h1)
      refine ⟨by omega,?_⟩
      rw [←h4]
      exact hcl k l (List.getElem?_eq_some_iff.1 h1).1 h1 h2 (by rw [h3];exact ha.2)
     have:=(hall (a:Int) h).2
     rw [Int.toNat_natCast,hb] at this
     injection this)
 exact this
def ZGB (k:Nat) (b:Bool):List Int:=if b=true then [(k:Int)] else []
theorem ZHU (l:List Bool) (m:Nat):(cat ZGB m l).length≤l.length:=by
 have:=Zb1 (f:=ZGB) (c:=1) (l:=l) (m:=m) (fun i x _=>by unfold ZGB;split<;>simp)
 omega
theorem ZHP (l:List Bool) (hl:l.length≤1000):ZHm l=some (cat ZGB 0 l):=by
 unfold ZHm
 refine ZaG (l:=l) ZGB [] (fun k x hx hk=>?_) ?_
 ·have h1:=ZHU (l.take k) 0
  rw [List.length_take] at h1
  simp only [List.nil_append,ZGX,show (k:Int)<(l.length:Int) from by omega,if_true,VU,hx,Bq,Zkd (show k≤1048576 by omega)]
  generalize cat ZGB 0 (l.take k)=acc at h1
  unfold ZGB
  split
  ·rw [ZB (by show (acc.length+1)*8≤_;omega)]
  ·rw [List.append_nil]
 ·simp only [List.nil_append,ZGX,Int.lt_irrefl,if_false]
theorem ZH8 (l:List Bool) (hl:l.length≤1000):ZHu l=some (cat ZGB 0 l):=by
 unfold ZHu
 refine ZaG (l:=l) ZGB [] (fun k x hx hk=>?_) ?_
 ·have h1:=ZHU (l.take k) 0
  rw [List.length_take] at h1
  simp only [List.nil_append,ZGZ,show (k:Int)<(l.length:Int) from by omega,if_true,VU,hx,Bq,Zkd (show k≤1048576 by omega)]
  generalize cat ZGB 0 (l.take k)=acc at h1
  unfold ZGB
  split
  ·rw [ZB (by show (acc.length+1)*8≤_;omega)]
  ·rw [List.append_nil]
 ·simp only [List.nil_append,ZGZ,Int.lt_irrefl,if_false]
/-
  Plain laws: live links, rising lists.
-/
def ZHp (n:Nat) (br:List Int):List Bool:=(List.range n).map (fun (k:Nat)=>!decide ((k:Int)∈br))
theorem ZHQ (n:Nat) (br:List Int):(ZHp n br).length=n:=by simp [ZHp]
theorem ZHN (l:List Int) (x:Int) (hl:l.length≤1048576):ZHx l x=some (decide (x∈l)):=by
 unfold ZHx
 rw [Zru (l:=l) (p:=fun y=>decide (y=x)) (out:=fun i=>decide (0≤i)) (show List.length _≤_ by omega) (fun k y hy=>by
  have hk:=(List.getElem?_eq_some_iff.1 hy).1
  simp only [ZHt,show (k:Int)<(l.length:Int) from by omega,if_true,VU,hy,Bq,decide_eq_true_eq]
  split
  ·rw [decide_eq_true (by omega)]
  ·rfl) (by simp only [ZHt,Int.lt_irrefl,if_false];rfl)]
 congr 1
 rw [decide_eq_decide,ZrE,List.any_eq_true]
 constructor
 ·rintro ⟨y,hy,e⟩;simp at e;subst e;exact hy
 ·intro h;exact ⟨x,h,by simp⟩
theorem ZHW (L:List Ze4) (br:List Int) (hL:L.length≤6000) (hb:br.length≤1048576):ZHy L br=some (ZHp L.length br):=by
 have e:cat (fun k (_:Ze4)=>[!decide ((k:Int)∈br)]) 0 L=ZHp L.length br:=by
  apply List.ext_getElem?
  intro j
  rw [ZIL]
  unfold ZHp
  rw [List.getElem?_map,Nat.zero_add]
  by_cases h:j<L.length
  ·rw [List.getElem?_eq_getElem h,List.getElem?_range h];rfl
  ·rw [List.getElem?_eq_none (by omega),List.getElem?_eq_none (by simp;omega)];rfl
 unfold ZHy
 refine ZaG (l:=L) (fun k (_:Ze4)=>[!decide ((k:Int)∈br)]) [] (fun k x hx hk=>?_) ?_
 ·have h1:(cat (fun k (_:Ze4)=>[!decide ((k:Int)∈br)]) 0 (L.take k)).length=(L.take k).length:=ZH0
  rw [List.length_take] at h1
  simp only [List.nil_append,ZHj,show (k:Int)<(L.length:Int) from by omega,if_true,ZHN br _ hb,Bq]
  rw [ZB (by rw [List.length_singleton];omega),Zkd (by omega)]
 ·simp only [List.nil_append,ZHj,Int.lt_irrefl,if_false,e]
theorem ZJu {n:Nat} {s:List Int} {x:Int} (h0:0≤x) (h1:x<(n:Int)):List.set (ZHp n s) (Int.toNat x) false=ZHp n (s++[x]):=by
 apply List.ext_getElem?
 intro j
 rw [List.getElem?_set]
 unfold ZHp
 rw [List.getElem?_map,List.getElem?_map,List.length_map,List.length_range]
 by_cases hj:j<n
 ·rw [List.getElem?_range hj]
  by_cases e:x.toNat=j
  ·rw [if_pos e,if_pos (by omega)]
   have:(j:Int)=x:=by omega
   simp [this]
  ·rw [if_neg e]
   have:¬(j:Int)=x:=by omega
   simp [this]
 ·rw [List.getElem?_eq_none (l:=List.range n) (by simp;omega)]
  split
  ·rw [if_neg (by omega)];rfl
  ·rfl
theorem ZIp (v:Zb0) (br:List Int) (hL:(Zb0.links v).length≤6000) (hb:ZuY br 0 (((Zb0.links v).length:Int)-1)) (hbl:br.length≤1048576):ZG2 v br=some (v,ZHp (Zb0.links v).length br,()):=by
 unfold ZG2
 rw [ZB (by omega),ZB (by omega),ZB (by omega),ZB (by omega)]
 generalize hn:(Zb0.links v).length=n at *
 have hlen:List.length (List.replicate (Int.toNat (n:Int)) false)=n:=by simp
 have hrest:ZA (fun w=>ZGq v br w.1 w.2.1) ((0:Int),List.replicate n true,())=some (.inr (v,ZHp n br,())):=by
  have:=ZgW (l:=br) (ρ:=(Int×List Bool×Unit) ⊕ Zhf) (fun k=>((k:Int),ZHp n (br.take k),())) (step:=fun w=>ZGq v br w.1 w.2.1) (good:=.inr (v,ZHp n br,()))
   (fun k x hx hk=>by
    have hxb:=hb x (List.mem_of_getElem? hx)
    obtain ⟨y,hy,_⟩:=ZFx (l:=ZHp n (br.take k)) hxb.1 (by rw [ZHQ];omega)
    simp only [ZGq,show (k:Int)<(br.length:Int) from by omega,if_true,VU,hx,hy,Bq]
    rw [ZJu hxb.1 (by omega),JI hx,Zkd (by omega)])
   (by simp only [ZGq,Int.lt_irrefl,if_false,List.take_length])
  have e0:ZHp n (br.take 0)=List.replicate n true:=by
   apply List.ext_getElem?
   intro j
   simp only [ZHp,List.take_zero,List.not_mem_nil,decide_false,Bool.not_false,List.getElem?_map,List.getElem?_replicate]
   by_cases h:j<n
   ·simp [h]
   ·simp [h]
  rw [←e0]
  exact this
 refine XC n (fun k w=>w.1=(k:Int)∧w.2.1.length=n∧∀ j,j<k→w.2.1[j]?=some true) _ ⟨rfl,by simp,fun j hj=>by omega⟩ ?_ ?_
 ·rintro k ⟨i,l,⟨⟩⟩ hk ⟨hi,hl,hS⟩
  simp only at hi hl hS
  subst hi
  have hx:l[k]?=some l[k]:=List.getElem?_eq_getElem (by omega)
  left
  simp only [ZGH,hn,hlen,show (k:Int)<(n:Int) from by omega,if_true,VU,hx,Bq]
  refine ⟨_,rfl,by simp only;rw [Zkd (by omega)],by simp [hl],fun j hj=>?_⟩
  simp only [Int.toNat_natCast]
  rw [List.getElem?_set]
  split
  ·rw [if_pos (by omega)]
  ·exact hS j (by omega)
 ·rintro ⟨i,l,⟨⟩⟩ ⟨hi,hl,hS⟩
  simp only at hi hl hS
  subst hi
  have e:l=List.replicate n true:=by
   apply List.ext_getElem?
   intro j
   rw [List.getElem?_replicate]
   by_cases h:j<n
   ·rw [hS j h,if_pos h]
   ·rw [List.getElem?_eq_none (by omega),if_neg h]
  simp only [ZGH,hn,hlen,Int.lt_irrefl,if_false]
  rw [e]
  exact hrest
def ZHY (n:Int) (l:List Int):Prop:=ZuY l 0 (n-1)∧Inc l
theorem ZKe {l:List Int}:Inc l↔Zna l (fun k x=>∀ y,0<k→l[k-1]?=some y→y<x):=by
 constructor
 ·intro h k x hx y hk hy
  exact h (k-1) y x hy (by rw [show k-1+1=k by omega];exact hx)
 ·intro h k x y hx hy
  exact h (k+1) y hy x (by omega) hx
theorem ZHR (l:List Int) (n:Int) (hl:l.length≤1048576) (hn:0≤n∧n≤1048576):ZHo l n=some (tr (ZHY n l)):=by
 have e1:Wq (n-1)=n-1:=XD (by omega) (by omega)
 unfold ZHo
 rw [Zrc (l:=l) (show List.length _≤_ by omega) (fun k x=>(0≤x∧x≤n-1)∧∀ y,0<k→l[k-1]?=some y→y<x) (bad:=false) (good:=true)
  (fun k x hx hk _=>by
   simp only [ZG0,show (k:Int)<(l.length:Int) from by omega,if_true,VU,hx,Bq,ZrJ,e1]
   by_cases hb:0≤x∧x≤n-1
   ·rw [if_pos (ZcF hb)]
    by_cases h0:(0:Int)<(k:Int)
    ·obtain ⟨y,hy⟩:∃ y,l[k-1]?=some y:=⟨_,List.getElem?_eq_getElem (by omega)⟩
     rw [if_pos h0,ZAd (by omega) (by omega),VU,hy,Bq]
     constructor
     ·intro hh
      rw [if_neg]
      have:=hh.2 y (by omega) rfl
      omega
     ·intro hh
      rw [if_pos]
      apply Classical.byContradiction
      intro hlt
      refine hh ⟨hb,fun y' _ hy'=>?_⟩
      injection hy' with hy'
      have:¬x≤y:=hlt
      omega
    ·rw [if_neg h0]
     exact ⟨fun _=>rfl,fun hh=>absurd ⟨hb,fun y hk0=>by omega⟩ hh⟩
   ·rw [if_neg (fun q=>hb ((Zgv _).1 q))]
    exact ⟨fun hh=>absurd hh.1 hb,fun _=>rfl⟩)
  (fun _=>by simp only [ZG0,Int.lt_irrefl,if_false]),Zxw]
 congr 1
 refine ZqI ?_
 unfold ZHY
 rw [ZKe]
 constructor
 ·intro q
  exact ⟨Ztw.1 (fun k x hx=>(q k x hx).1),fun k x hx=>(q k x hx).2⟩
 ·rintro ⟨q1,q2⟩ k x hx
  exact ⟨q1 x (List.mem_of_getElem? hx),q2 k x hx⟩
theorem ZH1 (l:List Int) (n:Int) (hl:l.length≤1048576):((Qf l 0 n).bind fun b=>if b=true then (Zsi l).bind fun c=>some c else some false)=some (tr (ZuY l 0 n∧Inc l)) :=
 ZpR (Zu0 _ _ _ hl) (fun _=>Zs4 (Zvq _ (show List.length _≤_ by omega)))
theorem ZH3 {b:Zv} (h:ZqJ b) {l:Ze4} (hl:l∈ZGm b):(0≤Ze4.From l∧Ze4.From l<2*((places (Zv.Design b)).length:Int))∧(0≤Ze4.To l∧Ze4.To l<2*((places (Zv.Design b)).length:Int)):=by
 have hf:=h.ok.1.few
 unfold ZGm at hl
 rcases List.mem_append.1 hl with hl | hl
 ·obtain ⟨i,x,hi,hx⟩:=Zug.1 hl
  rw [Nat.zero_add] at hx
  obtain ⟨hc,⟨c,hc1,hc2⟩,_⟩:=h.ok.1.2.2.1 x (List.mem_of_getElem? hi)
  have hC:=h.ok.1.1.2.1 c (List.mem_of_getElem? hc1)
  unfold ZIc at hx
  rw [hc1] at hx
  obtain ⟨k,a,ha,hla⟩:=Zug.1 hx
  have hao:=(hC.2.2.1.2 k a ha).1
  have h1:=hao.1
  have h2:=hao.2.1
  obtain ⟨B,hB⟩:=ZIb hi
  have hlen:fst (Zv.Design b) i+(Zz.Zbh x).length≤(places (Zv.Design b)).length:=by
   rw [hB,List.length_append,List.length_append,ZHF];unfold fst;omega
  unfold ZIi at hla
  obtain ⟨p,hp,rfl⟩:=List.mem_map.1 hla
  have htr:(0≤p.1∧p.1≤1)∧(0≤p.2.1∧p.2.1≤1):=by
   unfold trs at hp
   repeat' split at hp
   all_goals (simp only [List.mem_cons,List.not_mem_nil,or_false] at hp)
   all_goals first | (rcases hp with rfl | rfl | rfl | rfl<;>simp) | (rcases hp with rfl | rfl<;>simp) | exact hp.elim
  simp only [ZG7,Ze4.From,Ze4.To]
  omega
 ·obtain ⟨v,w,hw,hx⟩:=Zug.1 hl
  rw [Nat.zero_add] at hx
  have hv:v<(Zp.Zbh (Zv.Design b)).length:=by
   have:=(List.getElem?_eq_some_iff.1 hw).1
   have:=h.ok.2.1
   omega
  have hd:=ZIX h hv
  obtain ⟨j,s,hs,hls⟩:=Zug.1 hx
  have hsb:=ZFv (List.mem_of_getElem? hs)
  simp only [List.mem_cons,List.not_mem_nil,or_false] at hls
  rcases hls with rfl | rfl
  ·simp only [ZG7,Ze4.From,Ze4.To];omega
  ·simp only [ZG7,Ze4.From,Ze4.To];omega
theorem ZHM {b:Zv} (h:ZqJ b):(ZGm b).length≤6000:=by
 have h1:=ZHT h
 have h2:=ZHZ h (Zv.ZlA b)
 have h3:=h.ok.2.1
 have h4:=h.ok.1.2.1.2.1
 unfold ZGm ZI1
 rw [List.length_append]
 omega
theorem ZIW {P:Nat→Prop} {r s:List Bool} (hl:r.length=s.length) (hr:∀ (a:Nat) (b:Bool),r[a]?=some b→(b=true↔P a)) (hs:∀ (a:Nat) (b:Bool),s[a]?=some b→(b=true↔P a)):r=s:=by
 apply List.ext_getElem?
 intro j
 by_cases h:j<r.length
 ·have h1:r[j]?=some r[j]:=List.getElem?_eq_getElem h
  have h2:s[j]?=some s[j]:=List.getElem?_eq_getElem (by omega)
  rw [h1,h2]
  congr 1
  exact Bool.eq_iff_iff.2 ((hr j _ h1).trans (hs j _ h2).symm)
 ·rw [List.getElem?_eq_none (by omega),List.getElem?_eq_none (by omega)]
/-
  Plain laws: loops of links, and how the reference breaks them.
-/
def ZHX (L:List Ze4):List Ze4:=L.map (fun l=>(Ze4.To l,Ze4.From l,Ze4.Kind l,l.2.2.2))
theorem ZIu (L:List Ze4):(ZHX L).length=L.length:=List.length_map ..
theorem ZKc {α β:Type} (f:α→β) (l:List α) (i:Int):atI (l.map f) i=(atI l i).map f:=by
 unfold atI
 split
 ·rw [List.getElem?_map]
 ·rfl
theorem ZJy (n node:Int) (L:List Ze4) (lv:List Bool):ZGK n L lv node false=ZGK n (ZHX L) lv node true:=by
 have e0:∀ (ch:Bool) (k:Int) (l1:List Bool),ZGp L lv false ch k l1=ZGp (ZHX L) lv true ch k l1:=by
  intro ch k l1
  unfold ZGp
  rw [ZIu]
  by_cases h:k<(L.length:Int)
  ·rw [if_pos h,if_pos h]
   unfold ZHX
   rw [ZKc]
   cases atI L k with
   | none=>rfl
   | some x=>rfl
  ·rw [if_neg h,if_neg h]
 have e1:∀ (ch:Bool) (l0:List Bool),ZGt L lv false ch l0=ZGt (ZHX L) lv true ch l0:=by
  intro ch l0
  unfold ZGt
  simp only [e0]
 unfold ZGK
 simp only [e1]
theorem ZJO {L:List Ze4} {lv:List Bool} {a c:Int} (h:Live (ZHX L) lv a c):Live L lv c a:=by
 obtain ⟨k,l,h1,h2,h3,h4⟩:=h
 unfold ZHX at h1
 rw [List.getElem?_map,Option.map_eq_some_iff] at h1
 obtain ⟨x,hx,rfl⟩:=h1
 exact ⟨k,x,hx,h2,h4,h3⟩
theorem ZJv {L:List Ze4} {lv:List Bool} {a c:Int} (h:Live L lv c a):Live (ZHX L) lv a c:=by
 obtain ⟨k,l,h1,h2,h3,h4⟩:=h
 exact ⟨k,_,by unfold ZHX;rw [List.getElem?_map,h1];rfl,h2,h4,h3⟩
theorem ZJW {N:Nat} {L:List Ze4} (h:InN N L):InN N (ZHX L):=fun l hl=>by
 unfold ZHX at hl
 obtain ⟨x,hx,rfl⟩:=List.mem_map.1 hl
 exact ⟨(h x hx).2,(h x hx).1⟩
structure Scc (N:Nat) (L:List Ze4) (lv:List Bool) (v:Int) (m:List Int):Prop where
 mem:∀ c,c∈m↔((0≤c∧c<(N:Int))∧Rch L lv (fun a=>a=v) c∧Rch (ZHX L) lv (fun a=>a=v) c)
 nod:m.Nodup
 len:m.length≤N
 more:1<m.length∨∃ (k:Nat) (l:Ze4),L[k]?=some l∧lv[k]?=some true∧Ze4.From l=v∧Ze4.To l=v
 v0:0≤v∧v<(N:Int)
theorem ZIT (v:Int):∀ {m:List Int},m.Nodup→1<m.length→∃ a,a∈m∧a≠v
 | [],_,h=>by simp at h
 | [_],_,h=>by simp at h
 | a::b::r,hn,_=>by
  by_cases q:a=v
  ·refine ⟨b,by simp,fun e=>?_⟩
   rw [List.nodup_cons] at hn
   exact hn.1 (by rw [q,←e];simp)
  ·exact ⟨a,by simp,q⟩
theorem Scc.cell {N:Nat} {L:List Ze4} {lv:List Bool} {v:Int} {m:List Int} (h:Scc N L lv v m) {D:Int→Prop} (hL:InN N L) (hD:∀ l∈L,Ze4.Kind l=1∨(D (Ze4.From l)∧¬D (Ze4.To l))) :
  ∃ (k:Nat) (l:Ze4),L[k]?=some l∧lv[k]?=some true∧Ze4.Kind l=1∧Ze4.From l∈m∧Ze4.To l∈m:=by
 apply Classical.byContradiction
 intro hno
 have key:∀ (a c:Int),Live L lv a c→a∈m→c∈m→D a∧¬D c:=by
  rintro a c ⟨k,l,h1,h2,rfl,rfl⟩ ha hc
  rcases hD l (List.mem_of_getElem? h1) with q | q
  ·exact absurd ⟨k,l,h1,h2,q,ha,hc⟩ hno
  ·exact q
 have inn:∀ {a c:Int},Live L lv a c→(0≤a∧a<(N:Int))∧(0≤c∧c<(N:Int)):=by
  rintro a c ⟨k,l,h1,h2,rfl,rfl⟩
  exact hL l (List.mem_of_getElem? h1)
 have hv:v∈m:=(h.mem v).2 ⟨h.v0,.base rfl,.base rfl⟩
 rcases h.more with hm | ⟨k,l,h1,h2,h3,h4⟩
 ·obtain ⟨a,ha,hav⟩:=ZIT v h.nod hm
  obtain ⟨_,ra,rb⟩:=(h.mem a).1 ha
  have ra0:=ra
  have rb0:=rb
  cases ra with
  | base q=>exact hav q
  | @step c _ rc hl =>
   have hc:c∈m:=(h.mem c).2 ⟨(inn hl).1,rc,rb0.step (ZJv hl)⟩
   have k1:=key _ _ hl hc ha
   cases rb with
   | base q=>exact hav q
   | @step c' _ rc' hl' =>
    have hl'':=ZJO hl'
    have hc':c'∈m:=(h.mem c').2 ⟨(inn hl'').2,ra0.step hl'',rc'⟩
    exact k1.2 (key _ _ hl'' ha hc').1
 ·have:=key v v ⟨k,l,h1,h2,h3,h4⟩ hv hv
  exact this.2 this.1
theorem ZJQ {L:List Ze4} {lv:List Bool} (hLs:L.length≤6000) (hlv:lv.length=L.length) (v:Int):Gets (ZHE L lv v) (fun r=>r=true→∃ (k:Nat) (l:Ze4),L[k]?=some l∧lv[k]?=some true∧Ze4.From l=v∧Ze4.To l=v):=by
 unfold ZHE
 refine Gets.loop (fun s=>0≤s.1∧s.1≤6000) (fun s=>(6000-s.1).toNat) ⟨Int.le_refl _,by dsimp only;omega⟩ ?_
 rintro ⟨k,⟨⟩⟩ ⟨k0,k1⟩
 dsimp only at k0 k1
 show Gets (ZHl L lv v k) _
 unfold ZHl
 have en:Wq (k+1)=k+1:=XD (by omega) (by omega)
 simp only [en]
 refine Gets.ite (fun hk=>?_) (fun _=>.ret (show false=true→_ from fun q=>by cases q))
 refine .at k0 (by omega) fun x hx hx2=>?_
 refine Gets.ite (fun hxt=>?_) (fun _=>.ret ⟨⟨by dsimp only;omega,by dsimp only;omega⟩,by dsimp only;omega⟩)
 refine .at k0 hk fun l hl hl2=>?_
 refine Gets.ite (fun h1=>?_) (fun _=>.ret ⟨⟨by dsimp only;omega,by dsimp only;omega⟩,by dsimp only;omega⟩)
 refine Gets.ite (fun h2=>?_) (fun _=>.ret ⟨⟨by dsimp only;omega,by dsimp only;omega⟩,by dsimp only;omega⟩)
 exact .ret (show true=true→_ from fun _=>⟨k.toNat,l,hl2,by rw [hx2,hxt],h1,h2⟩)
theorem ZJw {N:Nat} {L:List Ze4} {lv:List Bool} (hNs:N≤1000) (hL:InN N L) (hLs:L.length≤6000) (hlv:lv.length=L.length):Gets (ZHz (N:Int) L lv) (fun r=>∀ m∈r,∃ v,Scc N L lv v m):=by
 unfold ZHz
 refine .guard (by omega) (.guard (Int.le_refl _) (.guard (by omega) (.guard (by omega) ?_)))
 refine Gets.loop (fun s=>0≤s.2.1∧s.2.1≤(N:Int)∧(s.1.length:Int)≤s.2.1∧(∀ m∈s.1,∃ v,Scc N L lv v m)∧s.2.2.1.length=N) (fun s=>((N:Int)-s.2.1).toNat) ⟨Int.le_refl _,by dsimp only;omega,by dsimp only [List.length_nil];omega,fun m hm=>(by cases hm),by simp⟩ ?_
 rintro ⟨out,v,l0,⟨⟩⟩ ⟨i0,i1,i2,i3,i4⟩
 dsimp only at i0 i1 i2 i3 i4
 show Gets (ZHf (N:Int) L lv out v l0) _
 unfold ZHf
 have en:Wq (v+1)=v+1:=XD (by omega) (by omega)
 refine Gets.ite (fun hv=>?_) (fun _=>.ret (show ∀ m∈out,_ from i3))
 refine .at i0 (by omega) fun x hx _=>?_
 refine Gets.ite (fun _=>?_) (fun _=>?_)
 ·rw [en]
  exact .ret ⟨⟨by dsimp only;omega,by dsimp only;omega,by dsimp only;omega,i3,i4⟩,by dsimp only;omega⟩
 obtain ⟨r0,e0,l0',h0⟩:=ZH9 hNs hL hLs hlv (node:=v) ⟨i0,hv⟩
 obtain ⟨r1,e1,l1',h1⟩:=ZH9 (L:=ZHX L) hNs (ZJW hL) (by rw [ZIu];exact hLs) (by rw [ZIu];exact hlv) (node:=v) ⟨i0,hv⟩
 rw [←ZJy] at e1
 rw [e0,Bq,e1,Bq]
 refine Gets.loop (fun s=>0≤s.2.1∧s.2.1≤(N:Int)∧(s.1.length:Int)≤s.2.1∧s.1.Nodup∧s.2.2.1.length=N∧∀ c,c∈s.1↔((0≤c∧c<s.2.1)∧Rch L lv (fun a=>a=v) c∧Rch (ZHX L) lv (fun a=>a=v) c)) (fun s=>((N:Int)-s.2.1).toNat)
  ⟨Int.le_refl _,by dsimp only;omega,by dsimp only [List.length_nil];omega,List.nodup_nil,i4,fun c=>⟨fun h=>(by cases h),fun h=>by dsimp only at h;omega⟩⟩ ?_
 rintro ⟨m,k,l,⟨⟩⟩ ⟨j0,j1,j2,j3,j4,j5⟩
 dsimp only at j0 j1 j2 j3 j4 j5
 show Gets (ZHe (N:Int) L lv out v r0 r1 m k l) _
 unfold ZHe
 have ek:Wq (k+1)=k+1:=XD (by omega) (by omega)
 simp only [ek,en]
 refine Gets.ite (fun hk=>?_) (fun hk=>?_)
 ·refine .at j0 (by omega) fun x hx hx2=>?_
  have hk3:((k.toNat:Nat):Int)=k:=by omega
  have a0:=h0 k.toNat x hx2
  rw [hk3] at a0
  have skip:(¬(Rch L lv (fun a=>a=v) k∧Rch (ZHX L) lv (fun a=>a=v) k))→∀ c,c∈m↔((0≤c∧c<k+1)∧Rch L lv (fun a=>a=v) c∧Rch (ZHX L) lv (fun a=>a=v) c):=fun hn c=>by
   rw [j5 c]
   constructor
   ·rintro ⟨q1,q2⟩
    exact ⟨by omega,q2⟩
   ·rintro ⟨q1,q2⟩
    by_cases e:c=k
    ·subst e;exact absurd q2 hn
    ·exact ⟨by omega,q2⟩
  refine Gets.ite (fun hxt=>?_) (fun hxf=>?_)
  ·refine .at j0 (by omega) fun y hy hy2=>?_
   have a1:=h1 k.toNat y hy2
   rw [hk3] at a1
   refine Gets.ite (fun hyt=>?_) (fun hyf=>?_)
   ·refine .guard (by simp only [List.length_cons,List.length_nil];omega) ?_
    refine .at j0 (by omega) fun _ _ _=>?_
    refine .ret ⟨⟨by dsimp only;omega,by dsimp only;omega,by dsimp only;simp only [List.length_append,List.length_cons,List.length_nil];omega,?_,by dsimp only;rw [List.length_set];exact j4,fun c=>?_⟩,by dsimp only;omega⟩
    ·dsimp only
     rw [List.nodup_append]
     refine ⟨j3,by simp,fun a ha b hb=>?_⟩
     rw [List.mem_singleton] at hb
     have:=((j5 a).1 ha).1
     omega
    ·dsimp only
     rw [List.mem_append,List.mem_singleton,j5 c]
     constructor
     ·rintro (⟨q1,q2⟩ | rfl)
      ·exact ⟨by omega,q2⟩
      ·exact ⟨by omega,a0.1 hxt,a1.1 hyt⟩
     ·rintro ⟨q1,q2⟩
      by_cases e:c=k
      ·exact .inr e
      ·exact .inl ⟨by omega,q2⟩
   ·exact .ret ⟨⟨by dsimp only;omega,by dsimp only;omega,by dsimp only;omega,j3,j4,skip fun q=>hyf (a1.2 q.2)⟩,by dsimp only;omega⟩
  ·exact .ret ⟨⟨by dsimp only;omega,by dsimp only;omega,by dsimp only;omega,j3,j4,skip fun q=>hxf (a0.2 q.1)⟩,by dsimp only;omega⟩
 ·have hkN:k=(N:Int):=by omega
  have hS:(1<m.length∨∃ (k:Nat) (l:Ze4),L[k]?=some l∧lv[k]?=some true∧Ze4.From l=v∧Ze4.To l=v)→Scc N L lv v m:=fun hm=>⟨fun c=>by rw [j5 c,hkN],j3,by omega,hm,⟨i0,hv⟩⟩
  refine Gets.ite (fun h1=>?_) (fun _=>?_)
  ·refine .guard (by simp only [List.length_cons,List.length_nil];omega) (.ret ⟨⟨by dsimp only;omega,by dsimp only;omega,by dsimp only;simp only [List.length_append,List.length_cons,List.length_nil];omega,Yi i3 ⟨v,hS (.inl (by omega))⟩,j4⟩,by dsimp only;omega⟩)
  ·refine (ZJQ hLs hlv v).bind fun q hq=>?_
   refine Gets.ite (fun hqt=>?_) (fun _=>?_)
   ·exact .guard (by simp only [List.length_cons,List.length_nil];omega) (.ret ⟨⟨by dsimp only;omega,by dsimp only;omega,by dsimp only;simp only [List.length_append,List.length_cons,List.length_nil];omega,Yi i3 ⟨v,hS (.inr (hq hqt))⟩,j4⟩,by dsimp only;omega⟩)
   ·exact .ret ⟨⟨by dsimp only;omega,by dsimp only;omega,by dsimp only;omega,i3,j4⟩,by dsimp only;omega⟩
def Drv (b:Zv) (a:Int):Prop:=∃ p,(places (Zv.Design b))[(a / 2).toNat]?=some p∧p.2.2.2.1=true
theorem ZJt {b:Zv} (h:ZqJ b):∀ l∈ZGm b,Ze4.Kind l=1∨(Drv b (Ze4.From l)∧¬Drv b (Ze4.To l)):=by
 intro l hl
 unfold ZGm at hl
 rcases List.mem_append.1 hl with hl | hl
 ·left
  obtain ⟨i,x,hi,hx⟩:=Zug.1 hl
  unfold ZIc at hx
  split at hx
  ·obtain ⟨k,a,ha,hla⟩:=Zug.1 hx
   unfold ZIi at hla
   obtain ⟨p,hp,rfl⟩:=List.mem_map.1 hla
   rfl
  ·cases hx
 ·right
  obtain ⟨v,w,hw,hx⟩:=Zug.1 hl
  rw [Nat.zero_add] at hx
  have hv:v<(Zp.Zbh (Zv.Design b)).length:=by
   have:=(List.getElem?_eq_some_iff.1 hw).1
   have:=h.ok.2.1
   omega
  obtain ⟨q,y,hy,hyd,hq,_⟩:=ZIZ h.ok.1 (Zrd h.sm).2.1 hv
  obtain ⟨j,s,hs,hls⟩:=Zug.1 hx
  have hsk:=List.mem_of_getElem? hs
  unfold sinks at hsk
  obtain ⟨k,x,hk,hsx⟩:=Zug.1 hsk
  have hs2:s=(k:Int)∧¬x.2.2.2.1=true:=by
   unfold Zg9 at hsx
   split at hsx
   ·split at hsx
    ·cases hsx
    ·rename_i q2
     simp only [List.mem_singleton] at hsx
     exact ⟨by omega,q2⟩
   ·cases hsx
  have hdy:y.2.2.2.1=true:=by
   unfold ZIY at hyd
   rw [Bool.and_eq_true] at hyd
   exact hyd.2
  have two:∀ c:Int,c=0∨c=1→Drv b (2*ZHV (Zv.Design b) (v:Int)+c)∧¬Drv b (2*s+c):=fun c hc=>by
   refine ⟨⟨y,?_,hdy⟩,fun hd=>?_⟩
   ·rw [hq,show ((2*(q:Int)+c) / 2).toNat=q by omega]
    exact hy
   ·obtain ⟨p,hp,hpd⟩:=hd
    rw [hs2.1,show ((2*(k:Int)+c) / 2).toNat=k by omega,hk] at hp
    injection hp with hp
    subst hp
    exact hs2.2 hpd
  simp only [List.mem_cons,List.not_mem_nil,or_false] at hls
  rcases hls with rfl | rfl
  ·exact two 0 (.inl rfl)
  ·exact two 1 (.inr rfl)
theorem ZIf {d:Zv} (hf:Few (Zv.Design d)):ZGJ d=some ((2*(places (Zv.Design d)).length:Nat):Int):=by
 have hpl:=Zck hf
 unfold ZGJ
 rw [JF _ hf,Bq,XD (by omega) (by omega)]
 congr 1
def ct (l:List Bool):Nat:=l.countP (fun b=>b)
theorem ZJ6:∀ (l:List Bool) (i:Nat),l[i]?=some true→ct (l.set i false)+1=ct l
 | [],_,h=>by simp at h
 | b::l,0,h=>by simp at h;subst h;simp [ct]
 | b::l,i+1,h=>by
  have:=ZJ6 l i (by simpa using h)
  unfold ct at this ⊢
  simp only [List.set_cons_succ,List.countP_cons]
  omega
def Found (L:List Ze4) (lv:List Bool) (m:List Int) (k v:Int):Prop :=
 (v=-1∧∀ (j:Nat) (l:Ze4),(j:Int)<k→L[j]?=some l→lv[j]?=some true→Ze4.Kind l=1→Ze4.From l∈m→Ze4.To l∈m→False)∨(0≤v∧v<(lv.length:Int)∧lv[v.toNat]?=some true)
theorem Found.stay {L:List Ze4} {lv:List Bool} {m:List Int} {k v:Int} (h:Found L lv m k v) (h0:0≤k) (hn:∀ l,L[k.toNat]?=some l→lv[k.toNat]?=some true→Ze4.Kind l=1→Ze4.From l∈m→Ze4.To l∈m→False):Found L lv m (k+1) v:=by
 rcases h with ⟨e,h⟩ | h
 ·refine .inl ⟨e,fun j l hj hl=>?_⟩
  by_cases q:(j:Int)<k
  ·exact h j l q hl
  ·have:j=k.toNat:=by omega
   subst this
   exact hn l hl
 ·exact .inr h
theorem ZI3 {b:Zv} (h:ZqJ b):Gets (ZHk b) (fun r=>r.length≤6000):=by
 have hLs:=ZHM h
 have hf:=h.ok.1.few
 have hpl:=Zck hf
 have hIn:InN (2*(places (Zv.Design b)).length) (ZGm b):=fun l hl=>by
  have:=ZH3 h hl
  omega
 unfold ZHk
 rw [ZHK h,Bq,ZHW _ _ hLs (by simp),Bq,ZIf hf,Bq]
 refine Gets.loop (fun s=>s.1.length=(ZGm b).length) (fun s=>ct s.1) (ZHQ _ _) ?_
 rintro ⟨lv,⟨⟩⟩ hl
 dsimp only at hl
 show Gets (ZHd (ZGm b) ((2*(places (Zv.Design b)).length:Nat):Int) lv) _
 unfold ZHd
 refine (ZJw (by omega) hIn hLs hl).bind fun loops hS=>?_
 refine Gets.ite (fun h0=>?_) (fun h0=>?_)
 ·refine Gets.loop (fun s=>0≤s.2.1∧s.2.1≤6000∧(s.1.length:Int)≤s.2.1) (fun s=>(6000-s.2.1).toNat) ⟨Int.le_refl _,by dsimp only;omega,by dsimp only [List.length_nil];omega⟩ ?_
  rintro ⟨out,k,⟨⟩⟩ ⟨i0,i1,i2⟩
  dsimp only at i0 i1 i2
  show Gets (ZHb lv out k) _
  unfold ZHb
  have en:Wq (k+1)=k+1:=XD (by omega) (by omega)
  simp only [en]
  refine Gets.ite (fun hk=>?_) (fun _=>.ret (show out.length≤6000 by omega))
  refine .at i0 hk fun x _ _=>Gets.ite (fun _=>?_) (fun _=>?_)
  ·exact .ret ⟨⟨by dsimp only;omega,by dsimp only;omega,by dsimp only;omega⟩,by dsimp only;omega⟩
  ·exact .guard (by simp only [List.length_cons,List.length_nil];omega) (.ret ⟨⟨by dsimp only;omega,by dsimp only;omega,by dsimp only;simp only [List.length_append,List.length_cons,List.length_nil];omega⟩,by dsimp only;omega⟩)
 ·match loops,h0,hS with
  | [],h0,_=>exact absurd rfl h0
  | m::r,_,hS =>
   obtain ⟨v,hScc⟩:=hS m (by simp)
   obtain ⟨kk,ll,c1,c2,c3,c4,c5⟩:=hScc.cell hIn (ZJt h)
   have hml:=hScc.len
   refine Gets.loop (fun s=>0≤s.2.1∧s.2.1≤((ZGm b).length:Int)∧s.2.2.1=m::r∧Found (ZGm b) lv m s.2.1 s.1) (fun s=>(((ZGm b).length:Int)-s.2.1).toNat)
    ⟨Int.le_refl _,by dsimp only;omega,rfl,.inl ⟨rfl,fun j l hj=>by dsimp only at hj;omega⟩⟩ ?_
   rintro ⟨w,k,l1,⟨⟩⟩ ⟨i0,i1,i2,i3⟩
   dsimp only at i0 i1 i2 i3
   subst i2
   show Gets (ZHc (ZGm b) lv w k (m::r)) _
   unfold ZHc
   have en:Wq (k+1)=k+1:=XD (by omega) (by omega)
   simp only [en]
   refine Gets.ite (fun hk=>?_) (fun hk=>?_)
   ·refine .at i0 (by omega) fun x hx hx2=>?_
    refine Gets.ite (fun hxt=>?_) (fun hxf=>?_)
    ·refine .at i0 hk fun l hl hl2=>?_
     have stay:¬(Ze4.Kind l=1∧Ze4.From l∈m∧Ze4.To l∈m)→Found (ZGm b) lv m (k+1) w:=fun hn=>i3.stay i0 fun l' e1 _ q1 q2 q3=>by
      rw [hl2] at e1
      injection e1 with e1
      subst e1
      exact hn ⟨q1,q2,q3⟩
     refine Gets.ite (fun hkind=>?_) (fun hkind=>?_)
     ·rw [show atI (m::r) (0:Int)=some m from rfl,Bq,ZHN _ _ (by omega),Bq]
      refine Gets.ite (fun q1=>?_) (fun q1=>?_)
      ·rw [ZHN _ _ (by omega),Bq]
       refine Gets.ite (fun q2=>?_) (fun q2=>?_)
       ·exact .ret ⟨⟨by dsimp only;omega,by dsimp only;omega,rfl,.inr ⟨i0,by omega,by dsimp only;rw [hx2,hxt]⟩⟩,by dsimp only;omega⟩
       ·exact .ret ⟨⟨by dsimp only;omega,by dsimp only;omega,rfl,stay fun q=>q2 (decide_eq_true q.2.2)⟩,by dsimp only;omega⟩
      ·exact .ret ⟨⟨by dsimp only;omega,by dsimp only;omega,rfl,stay fun q=>q1 (decide_eq_true q.2.1)⟩,by dsimp only;omega⟩
     ·exact .ret ⟨⟨by dsimp only;omega,by dsimp only;omega,rfl,stay fun q=>hkind q.1⟩,by dsimp only;omega⟩
    ·exact .ret ⟨⟨by dsimp only;omega,by dsimp only;omega,rfl,i3.stay i0 fun l' _ e2 _ _ _=>by
      rw [hx2] at e2
      injection e2 with e2
      exact hxf e2⟩,by dsimp only;omega⟩
   ·have hkk:=(List.getElem?_eq_some_iff.1 c1).1
    rcases i3 with ⟨_,q⟩ | ⟨q0,q1,q2⟩
    ·exact (q kk ll (by omega) c1 c2 c3 c4 c5).elim
    ·refine .at q0 q1 fun x _ _=>?_
     have:=ZJ6 lv w.toNat q2
     refine .ret ⟨?_,?_⟩
     ·show (List.set lv (Int.toNat w) false).length=_
      rw [List.length_set];exact hl
     ·show ct (List.set lv (Int.toNat w) false)<ct lv
      omega
/-
  Plain laws: what the draws of blocks with broken links, corners, sources and nodes yield.
-/
def ZJT (b:Zv):Prop:=Zyx b∧Few (Zv.Design b)
theorem ZfM.f {b:Zv} (h:ZfM b):ZJT b:=⟨⟨h.sm,fun _ _=>h.des.dn⟩,h.des.few⟩
theorem ZIj {s:Za} (hs:Src s):Gets (ZG5 s) (fun r=>ZJT r.1∧Src r.2):=by
 unfold ZG5
 have bl:∀ {t:Za} (wild:Bool),Src t→Gets ((Qz t (6:Int) wild).bind fun l07Draw0=>some (l07Draw0.fst,l07Draw0.snd)) (fun r:Zv×Za=>ZJT r.1∧Src r.2):=fun wild ht =>
  (ZeD ht (most:=6) (by omega) (by omega) wild).bind fun r ⟨h,h1⟩=>.ret ⟨h.f,h1⟩
 refine (Zf hs 12).bind fun r0 ⟨_,h0⟩=>?_
 refine Gets.ite (fun _=>?_) (fun _=>?_)
 ·exact (ZFD h0).bind fun r ⟨h,h1⟩=>.ret ⟨h,h1⟩
 ·exact Gets.ite (fun _=>Gets.ite (fun _=>bl _ h0) (fun _=>bl _ h0)) (fun _=>Gets.ite (fun _=>bl _ h0) (fun _=>bl _ h0))
theorem ZIK {s:Za} (hs:Src s) {b:Zv} (hb:sm ZjX b):Gets (ZGx s b) (fun r=>r.1.length≤7000∧Src r.2):=by
 unfold ZGx
 rw [Zrz b hb,Bq]
 refine Gets.ite (fun hB=>?_) (fun _=>.ret ⟨by simp,hs⟩)
 have h:ZqJ b:=⟨(Zgv _).1 hB,hb⟩
 have hLs:=ZHM h
 refine (Zf hs 3).bind fun r0 ⟨_,h0⟩=>?_
 refine Gets.ite (fun _=>.ret ⟨by simp,h0⟩) (fun _=>?_)
 rw [ZHK h,Bq]
 refine (Zf h0 8).bind fun r1 ⟨⟨a0,a1⟩,h1⟩=>?_
 have e1:Wq (1+r1.1)=1+r1.1:=XD (by omega) (by omega)
 rw [e1]
 refine (Zf h1 _).bind fun r2 ⟨⟨b0,b1⟩,h2⟩=>?_
 refine Gets.loop (fun v=>0≤v.2.1∧v.2.1≤6100∧(v.1.length:Int)≤v.2.1∧Src (v.2.2.1,v.2.2.2.1,v.2.2.2.2.1,())) (fun v=>(6200-v.2.1).toNat) ⟨b0,by dsimp only;omega,by dsimp only [List.length_nil];omega,h2⟩ ?_
 rintro ⟨out,k,d0,d1,d2,⟨⟩⟩ ⟨i0,i1,i2,i3⟩
 dsimp only at i0 i1 i2 i3
 show Gets (ZGE (ZGm b) r1 out k d0 d1 d2) _
 unfold ZGE
 rw [e1]
 refine Gets.ite (fun hk=>?_) (fun _=>?_)
 ·refine .guard (by simp only [List.length_cons,List.length_nil];omega) ?_
  refine (Zf i3 _).bind fun r3 ⟨⟨f0,f1⟩,h3⟩=>?_
  have f2:r3.1≤8:=by omega
  have e3:Wq (1+r3.1)=1+r3.1:=XD (by omega) (by omega)
  have e4:Wq (k+(1+r3.1))=k+(1+r3.1):=XD (by omega) (by omega)
  rw [e3,e4]
  exact .ret ⟨⟨by dsimp only;omega,by dsimp only;omega,by dsimp only;simp only [List.length_append,List.length_cons,List.length_nil];omega,h3⟩,by dsimp only;omega⟩
 ·refine (Zf i3 _).bind fun r3 ⟨_,h3⟩=>?_
  refine Gets.ite (fun _=>?_) (fun _=>.ret (show out.length≤7000∧Src r3.2 from ⟨by omega,h3⟩))
  refine (Zf h3 _).bind fun r4 ⟨_,h4⟩=>?_
  refine .guard (by simp only [List.length_cons,List.length_nil];omega) (.ret ⟨?_,h4⟩)
  show (out++[_]).length≤7000
  simp only [List.length_append,List.length_cons,List.length_nil]
  omega
theorem ZIM {s:Za} (hs:Src s):Gets (ZGV s) (fun r=>(Qj.Name r.1).length≤5∧Src r.2):=by
 unfold ZGV
 refine (Zf hs 3).bind fun r0 ⟨⟨a0,a1⟩,h0⟩=>?_
 refine .at a0 (by simp only [List.length_cons,List.length_nil];omega) fun x hx _=>?_
 have hx5:x.length≤5:=by
  simp only [List.mem_cons,List.not_mem_nil,or_false] at hx
  rcases hx with rfl | rfl | rfl
  ·exact Nat.le_of_ble_eq_true rfl
  ·exact Nat.le_of_ble_eq_true rfl
  ·exact Nat.le_of_ble_eq_true rfl
 refine (Zf h0 _).bind fun r1 ⟨_,h1⟩=>?_
 refine (Zf h1 _).bind fun r2 ⟨_,h2⟩=>?_
 refine (Zf h2 _).bind fun r3 ⟨_,h3⟩=>?_
 refine (Zf h3 _).bind fun r4 ⟨_,h4⟩=>?_
 refine (Zf h4 _).bind fun r5 ⟨_,h5⟩=>?_
 refine Gets.ite (fun _=>.ret ⟨hx5,h5⟩) (fun _=>?_)
 refine Gets.ite (fun _=>?_) (fun _=>?_)
 ·refine (Zf h5 3).bind fun r6 ⟨⟨b0,b1⟩,h6⟩=>?_
  exact .at b0 (by simp only [List.length_cons,List.length_nil];omega) fun _ _ _=>.ret ⟨hx5,h6⟩
 refine Gets.ite (fun _=>?_) (fun _=>?_)
 ·exact (Zf h5 2).bind fun r6 ⟨_,h6⟩=>.ret ⟨hx5,h6⟩
 ·exact Gets.ite (fun _=>.ret ⟨by show ([]:List UInt8).length≤5;simp,h5⟩) (fun _=>.ret ⟨hx5,h5⟩)
theorem ZII {s:Za} (hs:Src s) {b:Zv} (hb:sm ZjX b):Gets (ZGj s b) (fun r=>r.1.length≤400∧Src r.2):=by
 unfold ZGj
 rw [Zrz b hb,Bq]
 refine Gets.ite (fun hB=>?_) (fun _=>.ret ⟨by simp,hs⟩)
 have h:ZqJ b:=⟨(Zgv _).1 hB,hb⟩
 have hf:=h.ok.1.few
 have hpl:=Zck hf
 rw [JF _ hf,Bq]
 generalize places (Zv.Design b)=ps at hpl
 refine Gets.loop (fun v=>0≤v.2.1∧v.2.1≤(ps.length:Int)∧(v.1.length:Int)≤2*v.2.1∧Src (v.2.2.1,v.2.2.2.1,v.2.2.2.2.1,())) (fun v=>((ps.length:Int)-v.2.1).toNat) ⟨Int.le_refl _,by dsimp only;omega,by dsimp only [List.length_nil];omega,hs⟩ ?_
 rintro ⟨out,p,c0,c1,c2,⟨⟩⟩ ⟨i0,i1,i2,i3⟩
 dsimp only at i0 i1 i2 i3
 show Gets (ZGA ps out p c0 c1 c2) _
 unfold ZGA
 have ep:Wq (p+1)=p+1:=XD (by omega) (by omega)
 refine Gets.ite (fun hp=>?_) (fun hp=>?_)
 ·refine .at i0 hp fun x _ _=>?_
  refine Gets.ite (fun _=>?_) (fun _=>?_)
  ·refine Gets.loop (fun v=>0≤v.2.1∧v.2.1≤2∧(v.1.length:Int)≤2*p+v.2.1∧Src (v.2.2.1,v.2.2.2.1,v.2.2.2.2.1,())) (fun v=>(2-v.2.1).toNat) ⟨Int.le_refl _,by dsimp only;omega,by dsimp only;omega,i3⟩ ?_
   rintro ⟨o,k,d0,d1,d2,⟨⟩⟩ ⟨j0,j1,j2,j3⟩
   dsimp only at j0 j1 j2 j3
   show Gets (ZGy p x o k d0 d1 d2) _
   unfold ZGy
   have ek:Wq (k+1)=k+1:=XD (by omega) (by omega)
   rw [ek,ep]
   have four:∀ {t:Za} {β:Type} {Q:β→Prop} {f:Int×Za→Int×Za→Int×Za→Int×Za→Option β},Src t→(∀ q1 q2 q3 q4:Int×Za,Src q4.2→Gets (f q1 q2 q3 q4) Q)→
     Gets ((Zc t (200:Int)).bind fun q1=>(Zc q1.snd (30:Int)).bind fun q2=>(Zc q2.snd (40:Int)).bind fun q3=>(Zc q3.snd (12:Int)).bind fun q4=>f q1 q2 q3 q4) Q:=fun ht hf =>
    (Zf ht _).bind fun q1 ⟨_,g1⟩=>(Zf g1 _).bind fun q2 ⟨_,g2⟩=>(Zf g2 _).bind fun q3 ⟨_,g3⟩=>(Zf g3 _).bind fun q4 ⟨_,g4⟩=>hf q1 q2 q3 q4 g4
   refine Gets.ite (fun hk=>?_) (fun hk=>?_)
   ·refine Gets.ite (fun _=>?_) (fun _=>?_)
    ·refine (Zf j3 _).bind fun r ⟨_,h1⟩=>?_
     refine Gets.ite (fun _=>?_) (fun _=>?_)
     ·refine four h1 fun q1 q2 q3 q4 g=>?_
      exact .guard (by simp only [List.length_cons,List.length_nil];omega) (.ret ⟨⟨by dsimp only;omega,by dsimp only;omega,by dsimp only;simp only [List.length_append,List.length_cons,List.length_nil];omega,g⟩,by dsimp only;omega⟩)
     ·refine (Zf h1 _).bind fun r ⟨_,h2⟩=>?_
      refine Gets.ite (fun _=>?_) (fun _=>?_)
      ·refine four h2 fun q1 q2 q3 q4 g=>?_
       exact .guard (by simp only [List.length_cons,List.length_nil];omega) (.ret ⟨⟨by dsimp only;omega,by dsimp only;omega,by dsimp only;simp only [List.length_append,List.length_cons,List.length_nil];omega,g⟩,by dsimp only;omega⟩)
      ·exact .ret ⟨⟨by dsimp only;omega,by dsimp only;omega,by dsimp only;omega,h2⟩,by dsimp only;omega⟩
    ·refine (Zf j3 _).bind fun r ⟨_,h1⟩=>?_
     refine Gets.ite (fun _=>?_) (fun _=>?_)
     ·refine four h1 fun q1 q2 q3 q4 g=>?_
      exact .guard (by simp only [List.length_cons,List.length_nil];omega) (.ret ⟨⟨by dsimp only;omega,by dsimp only;omega,by dsimp only;simp only [List.length_append,List.length_cons,List.length_nil];omega,g⟩,by dsimp only;omega⟩)
     ·exact .ret ⟨⟨by dsimp only;omega,by dsimp only;omega,by dsimp only;omega,h1⟩,by dsimp only;omega⟩
   ·exact .ret ⟨⟨by dsimp only;omega,by dsimp only;omega,by dsimp only;omega,j3⟩,by dsimp only;omega⟩
  ·refine Gets.loop (fun v=>0≤v.2.1∧v.2.1≤2∧(v.1.length:Int)≤2*p+v.2.1∧Src (v.2.2.1,v.2.2.2.1,v.2.2.2.2.1,())) (fun v=>(2-v.2.1).toNat) ⟨Int.le_refl _,by dsimp only;omega,by dsimp only;omega,i3⟩ ?_
   rintro ⟨o,k,d0,d1,d2,⟨⟩⟩ ⟨j0,j1,j2,j3⟩
   dsimp only at j0 j1 j2 j3
   show Gets (ZGz p o k d0 d1 d2) _
   unfold ZGz
   have ek:Wq (k+1)=k+1:=XD (by omega) (by omega)
   rw [ek,ep]
   refine Gets.ite (fun hk=>?_) (fun hk=>?_)
   ·refine (Zf j3 _).bind fun r ⟨_,h1⟩=>?_
    refine Gets.ite (fun _=>?_) (fun _=>?_)
    ·refine (Zf h1 _).bind fun q1 ⟨_,g1⟩=>(Zf g1 _).bind fun q2 ⟨_,g2⟩=>(Zf g2 _).bind fun q3 ⟨_,g3⟩=>(Zf g3 _).bind fun q4 ⟨_,g4⟩=>?_
     exact .guard (by simp only [List.length_cons,List.length_nil];omega) (.ret ⟨⟨by dsimp only;omega,by dsimp only;omega,by dsimp only;simp only [List.length_append,List.length_cons,List.length_nil];omega,g4⟩,by dsimp only;omega⟩)
    ·exact .ret ⟨⟨by dsimp only;omega,by dsimp only;omega,by dsimp only;omega,h1⟩,by dsimp only;omega⟩
   ·exact .ret ⟨⟨by dsimp only;omega,by dsimp only;omega,by dsimp only;omega,j3⟩,by dsimp only;omega⟩
 ·refine Gets.ite (fun h0=>?_) (fun _=>.ret (show out.length≤400∧Src (c0,c1,c2,()) from ⟨by omega,i3⟩))
  refine (Zf i3 _).bind fun r ⟨⟨a0,a1⟩,h1⟩=>?_
  have a2:r.1<(out.length:Int):=by omega
  refine (Zf h1 _).bind fun r2 ⟨_,h2⟩=>?_
  have fin:∀ y:ZbY,Gets (some (.inr (List.set out (Int.toNat r.1) y,r2.2)):Option (((List ZbY)×Int×(List Int)×Int×Int×Unit) ⊕ ((List ZbY)×Za))) (Rnd (fun v:(List ZbY)×Int×(List Int)×Int×Int×Unit=>0≤v.2.1∧v.2.1≤(ps.length:Int)∧(v.1.length:Int)≤2*v.2.1∧Src (v.2.2.1,v.2.2.2.1,v.2.2.2.2.1,())) (fun v=>((ps.length:Int)-v.2.1).toNat) ((ps.length:Int)-p).toNat (fun r=>r.1.length≤400∧Src r.2)):=fun y =>
   .ret (show (List.set out (Int.toNat r.1) y).length≤400∧Src r2.2 from ⟨by rw [List.length_set];omega,h2⟩)
  refine Gets.ite (fun _=>?_) (fun _=>?_)
  ·exact .at (Int.le_refl _) h0 fun _ _ _=>.at a0 a2 fun _ _ _=>fin _
  refine Gets.ite (fun _=>?_) (fun _=>?_)
  ·exact .at a0 a2 fun _ _ _=>fin _
  refine Gets.ite (fun _=>?_) (fun _=>?_)
  ·exact .at a0 a2 fun _ _ _=>fin _
  refine Gets.ite (fun _=>?_) (fun _=>?_)
  ·exact .at a0 a2 fun _ _ _=>fin _
  ·exact .ret (show out.length≤400∧Src r2.2 from ⟨by omega,h2⟩)
theorem ZJz {s:Za} (hs:Src s):Gets (ZHg s) (fun r=>ZJT r.1∧(Qj.Name r.2.1).length≤5∧r.2.2.1.length≤7000∧r.2.2.2.1.length≤400∧Src r.2.2.2.2):=by
 unfold ZHg
 refine (ZIj hs).bind fun r0 ⟨hb,h0⟩=>?_
 refine (ZIM h0).bind fun r1 ⟨hc,h1⟩=>?_
 refine (Zf h1 _).bind fun r2 ⟨_,h2⟩=>?_
 have rest:∀ (b:Zv) {t:Za},ZJT b→Src t→Gets ((ZGx t b).bind fun l09DrawBroken0 =>
   (Zsb b).bind fun IsBlock0 =>
   if IsBlock0=true then
    if (↑(List.length l09DrawBroken0.fst):Int)=(0:Int) then
     (Zc l09DrawBroken0.snd (6:Int)).bind fun l01Next1 =>
     if (0:Int)<l01Next1.fst then
      (ZHk b).bind fun l10Break0 =>
      (ZGj l01Next1.snd b).bind fun l12DrawSources0 =>
      some (b,r1.fst,l10Break0,l12DrawSources0.fst,l12DrawSources0.snd)
     else
      (ZGj l01Next1.snd b).bind fun l12DrawSources0 =>
      some (b,r1.fst,l09DrawBroken0.fst,l12DrawSources0.fst,l12DrawSources0.snd)
    else
     (ZGj l09DrawBroken0.snd b).bind fun l12DrawSources0 =>
     some (b,r1.fst,l09DrawBroken0.fst,l12DrawSources0.fst,l12DrawSources0.snd)
   else
    (ZGj l09DrawBroken0.snd b).bind fun l12DrawSources0 =>
    some (b,r1.fst,l09DrawBroken0.fst,l12DrawSources0.fst,l12DrawSources0.snd))
   (fun r:Zv×Qj×(List Int)×(List ZbY)×Za=>ZJT r.1∧(Qj.Name r.2.1).length≤5∧r.2.2.1.length≤7000∧r.2.2.2.1.length≤400∧Src r.2.2.2.2):=fun b t hb ht=>by
  refine (ZIK ht hb.1.1).bind fun r3 ⟨hl,h3⟩=>?_
  rw [Zrz b hb.1.1,Bq]
  have src:∀ {t:Za} (br:List Int),Src t→br.length≤7000→Gets ((ZGj t b).bind fun l12DrawSources0=>some (b,r1.fst,br,l12DrawSources0.fst,l12DrawSources0.snd)) (fun r:Zv×Qj×(List Int)×(List ZbY)×Za=>ZJT r.1∧(Qj.Name r.2.1).length≤5∧r.2.2.1.length≤7000∧r.2.2.2.1.length≤400∧Src r.2.2.2.2):=fun br ht hbr =>
   (ZII ht hb.1.1).bind fun q ⟨hq,g⟩=>.ret ⟨hb,hc,hbr,hq,g⟩
  refine Gets.ite (fun hB=>?_) (fun _=>src _ h3 hl)
  refine Gets.ite (fun _=>?_) (fun _=>src _ h3 hl)
  refine (Zf h3 _).bind fun r4 ⟨_,h4⟩=>?_
  refine Gets.ite (fun _=>?_) (fun _=>src _ h4 hl)
  exact (ZI3 ⟨(Zgv _).1 hB,hb.1.1⟩).bind fun q hq=>src _ h4 (by omega)
 refine Gets.ite (fun _=>?_) (fun _=>rest r0.1 hb h2)
 exact (ZeD h2 (most:=5) (by omega) (by omega) _).bind fun r3 ⟨hd,h3⟩=>rest r3.1 hd.f h3
theorem ZJx {s:Za} (hs:Src s) {b:Zv} (hb:Few (Zv.Design b)):Gets (ZG6 s b) (fun r=>r.1.length≤300∧Src r.2):=by
 have hpl:=Zck hb
 unfold ZG6
 refine Gets.loop (fun v=>0≤v.2.1∧v.2.1≤((2*(places (Zv.Design b)).length:Nat):Int)∧(v.1.length:Int)≤v.2.1∧Src (v.2.2.1,v.2.2.2.1,v.2.2.2.2.1,())) (fun v=>(((2*(places (Zv.Design b)).length:Nat):Int)-v.2.1).toNat) ⟨Int.le_refl _,by dsimp only;omega,by dsimp only [List.length_nil];omega,hs⟩ ?_
 rintro ⟨out,k,c0,c1,c2,⟨⟩⟩ ⟨i0,i1,i2,i3⟩
 dsimp only at i0 i1 i2 i3
 show Gets (ZGL b out k c0 c1 c2) _
 unfold ZGL
 rw [ZIf hb,Bq]
 have ek:Wq (k+1)=k+1:=XD (by omega) (by omega)
 rw [ek]
 refine Gets.ite (fun hk=>?_) (fun hk=>?_)
 ·refine (Zf i3 _).bind fun r ⟨_,h1⟩=>?_
  refine Gets.ite (fun _=>?_) (fun _=>?_)
  ·exact .guard (by simp only [List.length_cons,List.length_nil];omega) (.ret ⟨⟨by dsimp only;omega,by dsimp only;omega,by dsimp only;simp only [List.length_append,List.length_cons,List.length_nil];omega,h1⟩,by dsimp only;omega⟩)
  ·exact .ret ⟨⟨by dsimp only;omega,by dsimp only;omega,by dsimp only;omega,h1⟩,by dsimp only;omega⟩
 ·refine (Zf i3 _).bind fun r ⟨_,h1⟩=>?_
  refine Gets.ite (fun _=>?_) (fun _=>.ret (show out.length≤300∧Src r.2 from ⟨by omega,h1⟩))
  refine (Zf h1 _).bind fun r2 ⟨_,h2⟩=>?_
  refine .guard (by simp only [List.length_cons,List.length_nil];omega) (.ret ⟨?_,h2⟩)
  show (out++[_]).length≤300
  simp only [List.length_append,List.length_cons,List.length_nil]
  omega
/-
  Plain laws: cones.
-/
theorem ZJA {N:Nat} {L:List Ze4} {lv:List Bool} (hNs:N≤1000) (hL:InN N L) (hLs:L.length≤6000) (hlv:lv.length=L.length) {nodes:List Int} (hn:∀ a∈nodes,0≤a∧a<(N:Int)) (hnl:nodes.length≤1048576) :
  ∃ r,ZA (fun v=>ZGO nodes L lv (N:Int) v.1 v.2.1) ((0:Int),List.replicate (Int.toNat (N:Int)) false,())=some (cat ZGB 0 r,0)∧r.length=N∧∀ (a:Nat) (b:Bool),r[a]?=some b→(b=true↔Rch L lv (fun a=>a∈nodes) (a:Int)):=by
 obtain ⟨r,h1,s,rfl,h3⟩:=ZFy (l:=nodes) (ρ:=List Int×Int) (step:=fun v=>ZGO nodes L lv (N:Int) v.1 v.2.1) (v:=((0:Int),List.replicate (Int.toNat (N:Int)) false,()))
  (fun k v=>v.1=(k:Int)∧v.2.1.length=N∧∀ (a:Nat) (b:Bool),v.2.1[a]?=some b→(b=true↔Rch L lv (fun a=>a∈nodes.take k) (a:Int)))
  (fun r=>∃ s,r=(cat ZGB 0 s,0)∧s.length=N∧∀ (a:Nat) (b:Bool),s[a]?=some b→(b=true↔Rch L lv (fun a=>a∈nodes) (a:Int)))
  ⟨rfl,by simp,fun a b hb=>by
   simp only at hb
   rw [List.getElem?_replicate] at hb
   split at hb
   ·injection hb with hb
    subst hb
    constructor
    ·intro h;cases h
    ·intro h
     exact (h.sub (T:=fun _=>False) (fun a ha=>by simp at ha) (fun _ _ h _=>h)).elim
   ·cases hb⟩
  (by
   rintro k x ⟨i,s,⟨⟩⟩ hx hk ⟨hi,hl,hS⟩
   simp only at hi hl hS
   subst hi
   obtain ⟨rr,hr1,hr2,hr3⟩:=ZH9 hNs hL hLs hlv (hn x (List.mem_of_getElem? hx))
   simp only [ZGO,show (k:Int)<(nodes.length:Int) from by omega,if_true,VU,hx,Bq,hr1]
   obtain ⟨r,h1,t,rfl,h2,h3⟩:=ZFy (l:=rr) (ρ:=(Int×List Bool×Unit) ⊕ (List Int×Int)) (step:=fun v=>ZG4 (k:Int) rr v.1 v.2.1) (v:=((0:Int),s,()))
    (fun m v=>v.1=(m:Int)∧v.2.1.length=N∧∀ (a:Nat) (p q:Bool),s[a]?=some p→rr[a]?=some q→v.2.1[a]?=some (if a<m then p||q else p))
    (fun r=>∃ t,r=.inl (((k+1:Nat):Int),t,())∧t.length=N∧∀ (a:Nat) (p q:Bool),s[a]?=some p→rr[a]?=some q→t[a]?=some (p||q))
    ⟨rfl,hl,fun a p q hp _=>by simp only [Nat.not_lt_zero,if_false];exact hp⟩
    (by
     rintro m y ⟨i,t,⟨⟩⟩ hy hm ⟨hi,ht,hT⟩
     simp only at hi ht hT
     subst hi
     have hsp:s[m]?=some s[m]:=List.getElem?_eq_getElem (by omega)
     generalize s[m]=p at hsp
     have htm:=hT m p y hsp hy
     rw [if_neg (by omega)] at htm
     have goal:∀ z:Bool,z=(p||y)→∀ (a:Nat) (p' q':Bool),s[a]?=some p'→rr[a]?=some q'→(t.set m z)[a]?=some (if a<m+1 then p'||q' else p'):=by
      intro z hz a p' q' hp' hq'
      rw [List.getElem?_set]
      split
      ·rename_i e
       subst e
       rw [hsp] at hp';injection hp' with hp';subst hp'
       rw [hy] at hq';injection hq' with hq';subst hq'
       rw [if_pos (by omega),if_pos (by omega),hz]
      ·rw [hT a p' q' hp' hq']
       by_cases ham:a<m
       ·rw [if_pos ham,if_pos (by omega)]
       ·rw [if_neg ham,if_neg (by omega)]
     simp only [ZG4,show (m:Int)<(t.length:Int) from by omega,if_true,VU,htm,Bq,Int.toNat_natCast,hy]
     by_cases hpt:p=true
     ·rw [if_pos hpt,Zkd (by omega)]
      exact ⟨_,rfl,rfl,by simp [ht],goal true (by rw [hpt];rfl)⟩
     ·rw [if_neg hpt,Zkd (by omega)]
      exact ⟨_,rfl,rfl,by simp [ht],goal y (by simp at hpt;rw [hpt];rfl)⟩)
    (by
     rintro ⟨i,t,⟨⟩⟩ ⟨hi,ht,hT⟩
     simp only at hi ht hT
     subst hi
     simp only [ZG4]
     rw [if_neg (by omega),Zkd (by omega)]
     refine ⟨_,rfl,t,rfl,ht,fun a p q hp hq=>?_⟩
     have:=hT a p q hp hq
     rw [if_pos (List.getElem?_eq_some_iff.1 hq).1] at this
     exact this)
   refine ⟨_,h1,rfl,h2,fun a b hb=>?_⟩
   simp only at hb
   have ha:a<N:=by have:=(List.getElem?_eq_some_iff.1 hb).1;omega
   have hsp:s[a]?=some s[a]:=List.getElem?_eq_getElem (by omega)
   have hrp:rr[a]?=some rr[a]:=List.getElem?_eq_getElem (by omega)
   have e:=h3 a _ _ hsp hrp
   rw [hb] at e
   injection e with e
   rw [e,Bool.or_eq_true,hS a _ hsp,hr3 a _ hrp,JI hx]
   constructor
   ·rintro (h | h)
    ·exact h.mono (fun c hc=>by simp [hc])
    ·exact h.mono (fun c hc=>by simp [hc])
   ·intro h
    refine h.sub (T:=fun c=>Rch L lv (fun a=>a∈nodes.take k) c∨Rch L lv (fun a=>a=x) c) (fun c hc=>?_) (fun c c' hc hl=>?_)
    ·simp only [List.mem_append,List.mem_singleton] at hc
     rcases hc with hc | hc
     ·exact .inl (.base hc)
     ·exact .inr (.base hc)
    ·rcases hc with hc | hc
     ·exact .inl (.step hc hl)
     ·exact .inr (.step hc hl))
  (by
   rintro ⟨i,s,⟨⟩⟩ ⟨hi,hl,hS⟩
   simp only at hi hl hS
   subst hi
   rw [List.take_length] at hS
   simp only [ZGO,Int.lt_irrefl,if_false,ZH8 s (by omega),Bq]
   exact ⟨_,rfl,s,rfl,hl,hS⟩)
 exact ⟨s,h1,h3⟩
structure ZJ4 (b:Zv) (br nd l:List Int):Prop where
 blk:ZqJ b
 ris:ZHY ((ZGm b).length:Int) br
 nds:ZHY ((2*(places (Zv.Design b)).length:Nat):Int) nd
 is:∃ s:List Bool,l=cat ZGB 0 s∧s.length=2*(places (Zv.Design b)).length∧∀ (a:Nat) (c:Bool),s[a]?=some c→(c=true↔Rch (ZGm b) (ZHp (ZGm b).length br) (fun a=>a∈nd) (a:Int))
theorem ZIH {b:Zv} (h:ZqJ b):InN (2*(places (Zv.Design b)).length) (ZGm b):=fun l hl=>by
 have:=ZH3 h hl
 omega
theorem ZIC (b:Zv) (br nd:List Int) (hb:sm ZjX b) (hbr:br.length≤1048576) (hnd:nd.length≤1048576):∃ r,ZHD b br nd=some r∧ZHv b br nd=some r∧r.1.length≤1048576∧(r.2≠0→r.1=[])∧(r.2=0→ZJ4 b br nd r.1)∧(ZHY ((2*(places (Zv.Design b)).length:Nat):Int) nd→ZHY ((ZGm b).length:Int) br→ZqJ b→r.2=0):=by
 unfold ZHD ZHv ZHJ ZHh
 rw [Zrz b hb,Zua b hb]
 simp only [Bq]
 by_cases hB:ZvC b
 ·have h:ZqJ b:=⟨hB,hb⟩
  have hf:=hB.1.few
  have hpl:=Zck hf
  have hLs:=ZHM h
  obtain ⟨v,hv1,hv2,_,hv4⟩:=ZIr h
  have hbrk:ZGw v br=some (tr (ZHY ((ZGm b).length:Int) br)):=by
   unfold ZGw
   rw [show ZGC (Zb0.links v)=some ((Zb0.links v).length:Int) from rfl,Bq,hv4,XD (by omega) (by omega)]
   exact ZH1 br _ hbr
  rw [if_pos (ZcF hB),if_pos (ZcF hB),ZHK h,hv1]
  simp only [Bq,hbrk,ZHR br _ hbr (show (0:Int)≤((ZGm b).length:Int)∧((ZGm b).length:Int)≤1048576 by omega)]
  by_cases hR:ZHY ((ZGm b).length:Int) br
  ·rw [if_pos (ZcF hR),if_pos (ZcF hR)]
   have hg:=ZIp v br (by rw [hv4];exact hLs) (by rw [hv4];exact hR.1) hbr
   rw [hv4] at hg
   simp only [Bq,if_true,hg]
   have hcnt:ZGJ b=some (((2*(places (Zv.Design b)).length:Nat):Int)):=by
    unfold ZGJ
    rw [JF _ hf,Bq,XD (by omega) (by omega)]
    congr 1
   have hnodes:ZGG v nd=some (tr (ZHY ((2*(places (Zv.Design b)).length:Nat):Int) nd)):=by
    unfold ZGG ZGI
    rw [show ZrV (Zb0.places v)=some ((Zb0.places v).length:Int) from rfl,Bq,Bq,hv2,XD (n:=2*((places (Zv.Design b)).length:Int)) (by omega) (by omega),XD (by omega) (by omega),show 2*((places (Zv.Design b)).length:Int)-1=((2*(places (Zv.Design b)).length:Nat):Int)-1 by omega]
    exact ZH1 nd _ hnd
   have hsn:ZHA b nd=some (tr (ZHY ((2*(places (Zv.Design b)).length:Nat):Int) nd)):=by
    unfold ZHA
    rw [hcnt,Bq,ZHR nd _ hnd (by omega)]
    rfl
   rw [hsn,show ZGG (Zhf.view (v,ZHp (ZGm b).length br,())) nd=_ from hnodes]
   simp only [Bq]
   by_cases hN:ZHY ((2*(places (Zv.Design b)).length:Nat):Int) nd
   ·rw [if_pos (ZcF hN),if_pos (ZcF hN),ZHW _ _ hLs hbr,hcnt]
    simp only [Bq]
    have hInN:=ZIH h
    have hnd2:∀ a∈nd,0≤a∧a<((2*(places (Zv.Design b)).length:Nat):Int):=fun a ha=>by
     have:=hN.1 a ha
     omega
    obtain ⟨r,hr1,hr2,hr3⟩:=ZJA (N:=2*(places (Zv.Design b)).length) (by omega) hInN hLs (ZHQ _ br) hnd2 hnd
    obtain ⟨s,hs1,hs2,hs3⟩:=ZIs (g:=(v,ZHp (ZGm b).length br,())) (nodes:=nd) (N:=2*(places (Zv.Design b)).length) (by show _=2*((Zb0.places v).length:Int);rw [hv2];omega) (by omega) (by show InN _ (Zb0.links v);rw [hv4];exact hInN) (by show (Zb0.links v).length≤6000;rw [hv4];exact hLs) (by show (ZHp (ZGm b).length br).length=(Zb0.links v).length;rw [hv4,ZHQ]) hnd2 hnd
    have hs3':∀ (a:Nat) (c:Bool),s[a]?=some c→(c=true↔Rch (ZGm b) (ZHp (ZGm b).length br) (fun a=>a∈nd) (a:Int)):=by
     intro a c hc
     have:=hs3 a c hc
     rw [show Zb0.links (Zhf.view (v,ZHp (ZGm b).length br,()))=ZGm b from hv4] at this
     exact this
    have hrs:s=r:=ZIW (by omega) hs3' hr3
    subst hrs
    have hll:=ZHU s 0
    rw [ZB (by omega),ZB (by omega),ZB (by omega),ZB (by omega),hr1,hs1,Bq,ZHP s (by omega)]
    exact ⟨_,rfl,rfl,by simp only;omega,fun q=>absurd rfl q,fun _=>⟨h,hR,hN,s,rfl,hs2,hs3'⟩,fun _ _ _=>rfl⟩
   ·rw [if_neg (fun q=>hN ((Zgv _).1 q)),if_neg (fun q=>hN ((Zgv _).1 q))]
    exact ⟨_,rfl,rfl,by simp,fun _=>rfl,fun q=>(by cases q),fun q _ _=>absurd q hN⟩
  ·rw [if_neg (fun q=>hR ((Zgv _).1 q)),if_neg (fun q=>hR ((Zgv _).1 q))]
   simp only [Bq]
   rw [if_neg (by decide),if_neg (by decide)]
   exact ⟨_,rfl,rfl,by simp,fun _=>rfl,fun q=>(by cases q),fun _ q _=>absurd q hR⟩
 ·rw [if_neg (fun q=>hB ((Zgv _).1 q)),if_neg (fun q=>hB ((Zgv _).1 q))]
  simp only [Bq]
  rw [if_neg (by decide),if_neg (by decide)]
  exact ⟨_,rfl,rfl,by simp,fun _=>rfl,fun q=>(by cases q),fun _ _ q=>absurd q.ok hB⟩
/-
  Plain laws: the cone of several nodes is the union of their fan-outs: the law FnCone.
-/
theorem ZIR {b:Zv} {br:List Int} (h:ZqJ b) (hR:ZHY ((ZGm b).length:Int) br) (hbr:br.length≤1048576):∃ v,ZHh b br=some (some (v,ZHp (ZGm b).length br,()),0)∧Zb0.places v=places (Zv.Design b)∧Zb0.links v=ZGm b:=by
 have hLs:=ZHM h
 obtain ⟨v,hv1,hv2,_,hv4⟩:=ZIr h
 have hbrk:ZGw v br=some (tr (ZHY ((ZGm b).length:Int) br)):=by
  unfold ZGw
  rw [show ZGC (Zb0.links v)=some ((Zb0.links v).length:Int) from rfl,Bq,hv4,XD (by omega) (by omega)]
  exact ZH1 br _ hbr
 have hg:=ZIp v br (by rw [hv4];exact hLs) (by rw [hv4];exact hR.1) hbr
 rw [hv4] at hg
 refine ⟨v,?_,hv2,hv4⟩
 unfold ZHh
 rw [Zua b h.sm,Bq,if_pos (ZcF h.ok),hv1,Bq,hbrk,Bq,if_pos (ZcF hR),hg]
 rfl
theorem ZJC {b:Zv} {br:List Int} (h:ZqJ b) (hR:ZHY ((ZGm b).length:Int) br) (hbr:br.length≤1048576) {x:Int} (h0:0≤x) (h1:x<((2*(places (Zv.Design b)).length:Nat):Int)) :
  ∃ t:List Bool,ZHG b br x=some (cat ZGB 0 t,0)∧t.length=2*(places (Zv.Design b)).length∧∀ (a:Nat) (c:Bool),t[a]?=some c→(c=true↔Rch (ZGm b) (ZHp (ZGm b).length br) (fun a=>a∈[x]) (a:Int)):=by
 have hLs:=ZHM h
 have hpl:=Zck h.ok.1.few
 obtain ⟨v,hv,hv2,hv4⟩:=ZIR h hR hbr
 obtain ⟨s,hs1,hs2,hs3⟩:=ZIs (g:=(v,ZHp (ZGm b).length br,())) (nodes:=[x]) (N:=2*(places (Zv.Design b)).length) (by show _=2*((Zb0.places v).length:Int);rw [hv2];omega) (by omega) (by show InN _ (Zb0.links v);rw [hv4];exact ZIH h) (by show (Zb0.links v).length≤6000;rw [hv4];exact hLs) (by show (ZHp (ZGm b).length br).length=(Zb0.links v).length;rw [hv4,ZHQ]) (fun a ha=>by rw [List.mem_singleton] at ha;omega) (by simp)
 refine ⟨s,?_,hs2,fun a c hc=>?_⟩
 ·have hn:ZGW v x=some (tr (0≤x∧x≤((2*(places (Zv.Design b)).length:Nat):Int)-1)):=by
   unfold ZGW ZGI
   rw [show ZrV (Zb0.places v)=some ((Zb0.places v).length:Int) from rfl,Bq,Bq,hv2,XD (n:=2*((places (Zv.Design b)).length:Int)) (by omega) (by omega),XD (by omega) (by omega),show 2*((places (Zv.Design b)).length:Int)-1=((2*(places (Zv.Design b)).length:Nat):Int)-1 by omega,ZrR]
   rfl
  unfold ZHG ZHB
  rw [hv,Bq,if_pos rfl]
  simp only [Bq]
  rw [show ZGW (Zhf.view (v,ZHp (ZGm b).length br,())) x=_ from hn,Bq,if_pos (ZcF ⟨h0,by omega⟩)]
  simp only [Bq,if_true]
  rw [hs1,Bq,ZHP s (by omega)]
  rfl
 ·have:=hs3 a c hc
  rw [show Zb0.links (Zhf.view (v,ZHp (ZGm b).length br,()))=ZGm b from hv4] at this
  exact this
theorem ZIF (l:List Int) (x:Int) (hl:l.length≤1048576):ZHC l x=some (decide (x∈l)):=by
 unfold ZHC
 rw [Zru (l:=l) (p:=fun y=>decide (y=x)) (out:=fun i=>decide (0≤i)) (show List.length _≤_ by omega) (fun k y hy=>by
  have hk:=(List.getElem?_eq_some_iff.1 hy).1
  simp only [ZHr,show (k:Int)<(l.length:Int) from by omega,if_true,VU,hy,Bq,decide_eq_true_eq]
  split
  ·rw [decide_eq_true (by omega)]
  ·rfl) (by simp only [ZHr,Int.lt_irrefl,if_false];rfl)]
 congr 1
 rw [decide_eq_decide,ZrE,List.any_eq_true]
 constructor
 ·rintro ⟨y,hy,e⟩;simp at e;subst e;exact hy
 ·intro h;exact ⟨x,h,by simp⟩
theorem mem_listed {s:List Bool} {y:Int}:y∈cat ZGB 0 s↔∃ k:Nat,s[k]?=some true∧y=(k:Int):=by
 rw [Zug]
 constructor
 ·rintro ⟨k,x,hk,hy⟩
  unfold ZGB at hy
  split at hy
  ·rename_i e
   subst e
   simp only [List.mem_singleton] at hy
   exact ⟨k,hk,by omega⟩
  ·cases hy
 ·rintro ⟨k,hk,rfl⟩
  exact ⟨k,true,hk,by simp [ZGB]⟩
theorem ZIq:∀ (s:List Bool) (m:Nat),Inc (cat ZGB m s)∧∀ x∈cat ZGB m s,(m:Int)≤x
 | [],m=>⟨fun k x y h=>by simp [cat] at h,fun x h=>by simp [cat] at h⟩
 | b::s,m=>by
  obtain ⟨h1,h2⟩:=ZIq s (m+1)
  show Inc (ZGB m b++cat ZGB (m+1) s)∧∀ x∈ZGB m b++cat ZGB (m+1) s,_
  cases b with
  | false=>exact ⟨h1,fun x hx=>by have:=h2 x hx;omega⟩
  | true =>
   show Inc ((m:Int)::cat ZGB (m+1) s)∧∀ x∈(m:Int)::cat ZGB (m+1) s,_
   refine ⟨fun k x y hx hy=>?_,fun x hx=>?_⟩
   ·cases k with
    | zero =>
     have e:(m:Int)=x:=by simpa using hx
     have hy:(cat ZGB (m+1) s)[0]?=some y:=by simpa using hy
     have:=h2 y (List.mem_of_getElem? hy)
     omega
    | succ k=>exact h1 k x y (by simpa using hx) (by simpa using hy)
   ·rcases List.mem_cons.1 hx with rfl | hx
    ·exact Int.le_refl _
    ·have:=h2 x hx;omega
theorem ZIt {code:List Int} (hb:bnd (.sl (.int .u8)) code) (hl:code.length≤4096):Gets (ZHs code) (fun r=>ZJT r.1∧r.2.1.length≤7000∧r.2.2.length≤300):=by
 unfold ZHs
 refine (Zjd (bytesD hb) hl).bind fun s hs=>?_
 refine (ZJz hs).bind fun r ⟨hB,_,hbr,_,h1⟩=>?_
 exact (ZJx h1 hB.2).bind fun q ⟨hq,_⟩=>.ret ⟨hB,hbr,hq⟩
theorem ZIl (code:List Int) (hb:bnd (.sl (.int .u8)) code):ZHL code=some true:=by
 unfold ZHL ZbE
 rw [Bq]
 by_cases hbig:decide ((4096:Int)<(code.length:Int))=true
 ·rw [if_pos hbig]
 rw [if_neg hbig]
 have hlen:code.length≤4096:=by
  simp only [decide_eq_true_eq] at hbig
  omega
 obtain ⟨⟨b,br,nd⟩,hd,hbF,hbr,hnd⟩:=ZIt hb hlen
 have hbF:ZJT b:=hbF
 have hbr:br.length≤7000:=hbr
 have hnd:nd.length≤300:=hnd
 rw [hd,Bq]
 obtain ⟨⟨l,c⟩,e1,e2,e3,e4,e5,_⟩:=ZIC b br nd hbF.1.1 (by omega) (by omega)
 have e3:l.length≤1048576:=e3
 have e4:c≠0→l=[]:=e4
 have e5:c=0→ZJ4 b br nd l:=e5
 have e1':ZHD (b,br,nd).fst (b,br,nd).snd.fst (b,br,nd).snd.snd=some (l,c):=e1
 have e2':ZHv (b,br,nd).fst (b,br,nd).snd.fst (b,br,nd).snd.snd=some (l,c):=e2
 rw [e2',Bq,e1',Bq,if_pos rfl]
 by_cases hc:c=0
 ·subst hc
  rw [if_pos rfl]
  obtain ⟨hB,hR,hN,s,hs1,hs2,hs3⟩:=e5 rfl
  have hin:∀ y,y∈l↔∃ k:Nat,s[k]?=some true∧y=(k:Int):=fun y=>by rw [hs1];exact mem_listed
  have hRl:ZHY ((2*(places (Zv.Design b)).length:Nat):Int) l:=by
   refine ⟨fun y hy=>?_,by rw [hs1];exact (ZIq s 0).1⟩
   obtain ⟨k,hk,rfl⟩:=(hin y).1 hy
   have:=(List.getElem?_eq_some_iff.1 hk).1
   omega
  have inl:∀ k:Nat,k<2*(places (Zv.Design b)).length→Rch (ZGm b) (ZHp (ZGm b).length br) (fun a=>a∈nd) (k:Int)→(k:Int)∈l:=fun k hk hr=>by
   have hx:s[k]?=some (s[k]'(by omega)):=List.getElem?_eq_getElem _
   have:=(hs3 k _ hx).2 hr
   rw [this] at hx
   exact (hin _).2 ⟨k,hx,rfl⟩
  refine ZgW (l:=nd) (fun k=>((k:Int),())) (fun k x hx hk=>?_) ?_
  ·have hxm:=List.mem_of_getElem? hx
   have hxb:=hN.1 x hxm
   obtain ⟨t,t1,t2,t3⟩:=ZJC hB hR (by omega) (x:=x) hxb.1 (by omega)
   have hxl:x∈l:=by
    have:=inl x.toNat (by omega) (.base (by rw [show ((x.toNat:Nat):Int)=x by omega];exact hxm))
    rw [show ((x.toNat:Nat):Int)=x by omega] at this
    exact this
   have tl:=ZHU t 0
   have hinner:ZA (fun v:Int×Unit=>ZG3 (l,(0:Int)) (k:Int) (cat ZGB 0 t,(0:Int)) v.1) ((0:Int),())=some (.inl (((k+1:Nat):Int),())):=by
    refine ZgW (l:=cat ZGB 0 t) (fun j=>((j:Int),())) (fun j y hy hj=>?_) ?_
    ·obtain ⟨q,hq,rfl⟩:=mem_listed.1 (List.mem_of_getElem? hy)
     have hql:=(List.getElem?_eq_some_iff.1 hq).1
     have hqr:=(t3 q true hq).1 rfl
     have:((q:Nat):Int)∈l:=inl q (by omega) (hqr.mono fun a ha=>by rw [List.mem_singleton] at ha;subst ha;exact hxm)
     simp only [ZG3,show (j:Int)<((cat ZGB 0 t).length:Int) by omega,if_true,VU,hy,Bq,ZIF l _ e3,decide_eq_true this,Zkd (show j≤1048576 by have:=hB.ok.1.few;have:=Zck this;omega)]
    ·simp only [ZG3,Int.lt_irrefl,if_false,Zkd (show k≤1048576 by omega)]
   simp only [ZHq,show (k:Int)<(nd.length:Int) by omega,if_true,VU,hx,Bq,t1,ZIF l _ e3,decide_eq_true hxl,hinner]
  ·obtain ⟨⟨l',c'⟩,f1,f2,f3,f4,f5,f6⟩:=ZIC b br l hB.sm (by omega) e3
   have f6:c'=0:=f6 hRl hR hB
   subst f6
   obtain ⟨_,_,_,s',g1,g2,g3⟩:=f5 rfl
   have g1:l'=cat ZGB 0 s':=g1
   have hss:s'=s:=ZIW (by omega) (fun a q hq=>(g3 a q hq).trans ⟨fun hr=>hr.sub (fun y hy=>by
     obtain ⟨k,hk,rfl⟩:=(hin y).1 hy
     exact (hs3 k true hk).1 rfl) (fun _ _ h1 h2=>.step h1 h2),fun hr=>hr.mono fun y hy=>by
     have hyb:=hN.1 y hy
     have:=inl y.toNat (by omega) (.base (by rw [show ((y.toNat:Nat):Int)=y by omega];exact hy))
     rw [show ((y.toNat:Nat):Int)=y by omega] at this
     exact this⟩) hs3
   have hl':l'=l:=by rw [g1,hss,hs1]
   subst hl'
   simp only [ZHq,Int.lt_irrefl,if_false,f2,Bq,if_true,Ztd _ e3]
 ·rw [if_neg hc,e4 hc]
  rfl
end Go.Proofs.YtnnbgbgapogckaaGreatDoor
