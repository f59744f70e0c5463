/-
  slices.Sort and slices.Compact at lists of numbers of one's own: by the kit's summaries.
-/
import Derived.Test.YtpkjbcbepmpddaaGreatDoorE1
import Derived.Shelf.SortM.Plain
import Derived.Shelf.SortM.SortNone
import Derived.Shelf.SlicesE.Compact
namespace Go.Sx
set_option linter.unusedVariables false
set_option linter.unusedSimpArgs false
open Go.Sort
abbrev DpI:Dp:=.flat (.int .i64)
theorem ZlT {S:Nat->Prop} {w:World}:∀ (l:List Int) (xs:List Value) (fp:List Nat),ZaA (Zh5 S w DpI) l xs fp<->xs=l.map (Value.int .i64)/\fp=[]
 | [],_,_=>Iff.rfl
 | d::l,xs,fp=>by
  constructor
  ·rintro ⟨v1,v2,f1,f2,rfl,rfl,⟨rfl,h1⟩,h2⟩
   obtain ⟨rfl,rfl⟩:=(ZlT l v2 f2).1 h2;have h1:v1=[.int .i64 d]:=h1;subst h1;exact ⟨rfl,rfl⟩
  ·rintro ⟨rfl,rfl⟩
   exact ⟨[.int .i64 d],_,[],[],rfl,rfl,⟨rfl,rfl⟩,(ZlT l _ _).2 ⟨rfl,rfl⟩⟩
def srt (l:List Int):List Int:=l.mergeSort λx y=>decide (x<=y)
def ZtV (l:List Int):List Int:=Lib.compactUpTo l.toArray l.toArray.size
def ZEC (l:List Int):Option (List Int):=if (l.length:Int)<4611686018427387904 then some (srt l) else none
def Zxr (l:List Int):Option (List Int):=if 0<l.length then some (ZtV l) else none
def ZC6 (et:TypeId):Ctr:=⟨[.back (.ol et DpI)],[],λ(a:List Int×Unit) K=>Zv a λl _=>Yw (ZEC l) λr=>K () (r,())⟩
def ZzF (et:TypeId):Ctr:=⟨[.own (.ol et DpI)],[.own (.ol et DpI)],λ(a:List Int×Unit) K=>Zv a λl _=>Yw (Zxr l) λr=>K (r,()) ()⟩
theorem ZrV {w:World} {g o:Nat} {cur:Array Value} {et:TypeId} {n:Nat} {d:Array Int} {os:Array Obj} (hg:w.heap[g]?=some (.cells cur et (0,0))) :
  (grow (putRow (Value.int .i64) (Go.Sort.ahead w n) g o d) os).heap[g]?=some (.cells (putCells (Value.int .i64) o d cur) et (0,0))/\
  (∀ b,b<w.heap.size->b≠g->(grow (putRow (Value.int .i64) (Go.Sort.ahead w n) g o d) os).heap[b]?=w.heap[b]?)/\
  w.heap.size<=(grow (putRow (Value.int .i64) (Go.Sort.ahead w n) g o d) os).heap.size:=by
 have hgs:g<w.heap.size:=(Array.getElem?_eq_some_iff.1 hg).1;have hsz:(putRow (Value.int .i64) (Go.Sort.ahead w n) g o d).heap.size=w.heap.size:=by
  show ((Go.Sort.ahead w n).heap.modify g _).size=_;rw[Array.size_modify];rfl
 have hl:∀ b,b<w.heap.size->(grow (putRow (Value.int .i64) (Go.Sort.ahead w n) g o d) os).heap[b]?=(putRow (Value.int .i64) (Go.Sort.ahead w n) g o d).heap[b]?:=λb hb=>by
  show ((putRow (Value.int .i64) (Go.Sort.ahead w n) g o d).heap++os)[b]?=_;rw[Array.getElem?_append_left (by rw[hsz];exact hb)]
 refine ⟨?_,λb hb hbg=>?_,?_⟩
 ·rw[hl g hgs]
  show ((Go.Sort.ahead w n).heap.modify g _)[g]?=_;rw[Array.getElem?_modify,if_pos rfl];show ((w.heap)[g]?).map _=_;rw[hg];rfl
 ·rw[hl b hb]
  show ((Go.Sort.ahead w n).heap.modify g _)[b]?=_;rw[Array.getElem?_modify,if_neg (λh=>hbg h.symm)];rfl
 ·show w.heap.size<=((putRow (Value.int .i64) (Go.Sort.ahead w n) g o d).heap++os).size
  rw[Array.size_append,hsz];exact Nat.le_add_right _ _
theorem Zmt {F:List Int} {cur:Array Value} {o m:Nat} (h:o+F.length<=cur.size) (hm:m<=F.length):((putCells (Value.int .i64) o F.toArray cur).toList.drop o).take m=(F.take m).map (Value.int .i64):=by
 apply List.ext_getElem?;intro j;by_cases hj:j<m
 ·rw[List.getElem?_take,if_pos hj,List.getElem?_drop,Array.getElem?_toList]
  unfold putCells;rw[Array.getElem?_mapIdx,Array.getElem?_eq_getElem (by omega),Option.map_some,if_pos ⟨by omega,by simp only[List.size_toArray];omega⟩,show o+j-o=j by omega,List.getElem?_map,List.getElem?_take,if_pos hj,List.getElem?_eq_getElem (by omega)];simp only[Option.map_some];rw[getElem!_pos _ j (by simp only[List.size_toArray];omega)];rfl
 ·rw[List.getElem?_eq_none (by rw[List.length_take];omega),List.getElem?_eq_none (by rw[List.length_map,List.length_take];omega)]
theorem Zms {F:Array Int} {cur:Array Value} {o:Nat}:(putCells (Value.int .i64) o F cur).size=cur.size:=by
 unfold putCells;rw[Array.size_mapIdx]
theorem ownsInts {w:World} {et:TypeId} {l:List Int} {g cap o:Nat} {cur:Array Value} {xs:List Value} (hxs:xs=l.map (Value.int .i64)) (ho:w.JF 0 et 1 (.slice (some ⟨g,o,none⟩) l.length cap) l.length xs):Holds (Value.int .i64) w g o l.toArray:=by
 intro j hj;simp only[List.size_toArray] at hj;have hx:xs[j]?=some (Value.int .i64 (l.toArray)[j]!):=by
  rw[hxs,List.getElem?_map,List.getElem?_eq_getElem hj,getElem!_pos _ j (by simpa using hj)];rfl
 constructor
 ·have:=ho.Zhy rfl j _ hx
  rw[Addr.add_lit] at this;exact this
 ·rcases ho.2 with ⟨e,_⟩ | ⟨g',cap',cur',o',e,hb,hg,_⟩
  ·cases e
  ·injection e with e1 e2 e3
   injection e1 with e1
   injection e1 with e1 e4 e5
   subst e1;unfold World.frozen?;simp[hg]
theorem Zzc {P:Program} {ρ:Go.Shelf.Ren} (L:Go.Proofs.SlLaysM.n5 P ρ) (et:TypeId) (hcall:ZlI P (ρ.f 5)):Za P (ρ.f 5) (ZC6 et):=by
 refine ⟨hcall,λw S vs aa fp K hS _ hd hnd hfp hK=>?_⟩;obtain ⟨(l:List Int),⟨⟩⟩:=aa;obtain ⟨v,vr,f,fr,rfl,rfl,⟨hform,hrep⟩,rfl,rfl⟩:=hd;have hc:=hform.2 rfl;rw[hc] at hrep;obtain ⟨v',xs,fps,e1,ho,hr,ef⟩:=hrep;have e1:v=v':=by simpa using e1
 subst e1;have ho:w.JF 0 et 1 v l.length xs:=ho;have hr:ZaA (Zh5 S w DpI) l xs fps:=hr;obtain ⟨hxs,rfl⟩:=(ZlT _ _ _).1 hr;rw[List.append_nil] at hnd hfp ⊢;obtain ⟨r,hr,hK⟩:∃ r,ZEC l=some r/\K () (r,()):=hK;have hsm:(l.length:Int)<4611686018427387904:=by
  unfold ZEC at hr;split at hr
  ·assumption
  ·cases hr
 unfold ZEC at hr;rw[if_pos hsm] at hr;injection hr with hr
 subst hr;have done:∀ (w':World),Keeps ⟨w,S,λb=>b∈f,[]⟩ w'->ZvW S w' (.back (.ol et DpI)) (srt l) v f->
   ∃ v0 us rs ios S' fr fio,Ending.returned (Value.tuple #[])=.returned v0/\retv us v0/\K rs ios/\Keeps ⟨w,S,λb=>b∈f,[]⟩ w'/\(∀ b,S b->S' b)/\
    (∀ b,S' b->b<w'.heap.size/\(b<w.heap.size->S b\/b∈f))/\ZeA S' w' [] rs us fr/\Zik S' w' [.back (.ol et DpI)] ios [v] fio/\
    (fio++fr).Nodup/\∀ g∈fio++fr,¬S' g/\g<w'.heap.size/\(w.heap.size<=g\/g∈f):=by
  intro w' hk hsh;refine ⟨_,[],(),(srt l,()),S,[],f,rfl,rfl,hK,hk,λb h=>h,λb h=>⟨Nat.lt_of_lt_of_le (hS b h) hk.size,λ_=>.inl h⟩,⟨rfl,rfl⟩,⟨v,[],f,[],rfl,by simp,hsh,rfl⟩,?_,?_⟩
  ·rw[List.append_nil];exact hnd
  ·intro g hg
   rw[List.append_nil] at hg;exact ⟨(hfp g hg).1,Nat.lt_of_lt_of_le (hfp g hg).2 hk.size,.inr hg⟩
 by_cases hl:l=[]
 ·subst hl
  have ho2:∃ a cap,v=.slice a 0 cap:=by
   rcases ho.2 with ⟨rfl,_⟩ | ⟨g,cap,cur,o,rfl,_⟩
   ·exact ⟨none,0,rfl⟩
   ·exact ⟨_,_,rfl⟩
  obtain ⟨a,cap,rfl⟩:=ho2;refine (Go.Proofs.AnyM.slices_Sort_int_none L a cap w).mono ?_;rintro e' w' ⟨rfl,rfl⟩;have hs0:srt []=[]:=by simp[srt]
  exact done w' ⟨rfl,rfl,rfl,Nat.le_refl _,λ_ _ _=>rfl⟩ ⟨hform,by rw[hc,hs0];exact ⟨_,xs,[],rfl,ho,hr,ef⟩⟩
 ·have hn:0<l.length:=List.length_pos_iff.2 hl
  have ho0:=ho;rcases ho.2 with ⟨_,h0⟩ | ⟨g,cap,cur,o,rfl,hb,hg,hcap,hmax,hsz,htk⟩
  ·omega
  have hgs:g<w.heap.size:=(Array.getElem?_eq_some_iff.1 hg).1;have hcall:=Go.Proofs.AnyM.slices_Sort_int L g o cap l w (ownsInts (cur:=cur) hxs ho0) hgs (by omega);refine hcall.mono ?_;rintro e' w' ⟨rfl,n,os,rfl⟩;obtain ⟨h1,h2,h3⟩:=ZrV (n:=n) (o:=o) (d:=(srt l).toArray) (os:=os) hg;have hls:(srt l).length=l.length:=List.length_mergeSort _;have hgf:g∈f:=by rw[ef];simp[YC]
  refine done _ ⟨rfl,rfl,rfl,h3,λb hb hbf=>h2 b hb (λe=>hbf (by rw[e];exact hgf))⟩ ⟨⟨λh=>(by cases h),λ_=>hc⟩,?_⟩;rw[hc];refine ⟨_,(srt l).map (Value.int .i64),[],rfl,⟨by show ((srt l).map (Value.int .i64)).length=_;rw[List.length_map];exact (Nat.mul_one _).symm,.inr ⟨g,cap,_,o,by rw[hls],hb,h1,by rw[hls];exact hcap,hmax,by rw[Zms];exact hsz,?_⟩⟩,(ZlT _ _ _).2 ⟨rfl,rfl⟩,ef⟩;have hq:o+(srt l).length<=cur.size:=by rw[hls];have:cap*1=cap:=Nat.mul_one _;have hsz:o+cap*1<=cur.size:=hsz;omega
  show ((putCells (Value.int .i64) o (srt l).toArray cur).toList.drop o).take ((srt l).length*1)=_;rw[Nat.mul_one,Zmt hq (Nat.le_refl _),List.take_length]
theorem Zwt (l:List Int):(ZtV l).length<=l.length:=by
 unfold ZtV Lib.compactUpTo;rw[List.length_map];refine Nat.le_trans (List.length_filter_le _ _) ?_;simp
theorem ZBP {P:Program} {ρ:Go.Shelf.Ren} (L:Go.Proofs.SlLaysE.n43 P ρ) (et:TypeId) (v23:∀ w,(zeroValue (ρ.t 23)).run P w=.ok (.int .i64 0) w) (hcall:ZlI P (ρ.f 43)):Za P (ρ.f 43) (ZzF et):=by
 refine ⟨hcall,λw S vs aa fp K hS _ hd hnd hfp hK=>?_⟩;obtain ⟨(l:List Int),⟨⟩⟩:=aa;obtain ⟨v,vr,f,fr,rfl,rfl,⟨hform,hrep⟩,rfl,rfl⟩:=hd;have hc:=hform.2 rfl;rw[hc] at hrep;obtain ⟨v',xs,fps,e1,ho,hr,ef⟩:=hrep;have e1:v=v':=by simpa using e1
 subst e1;have ho:w.JF 0 et 1 v l.length xs:=ho;have hr:ZaA (Zh5 S w DpI) l xs fps:=hr;obtain ⟨hxs,rfl⟩:=(ZlT _ _ _).1 hr;rw[List.append_nil] at hnd hfp ⊢;obtain ⟨r,hr,hK⟩:∃ r,Zxr l=some r/\K (r,()) ():=hK;have hpos:0<l.length:=by
  unfold Zxr at hr;split at hr
  ·assumption
  ·cases hr
 unfold Zxr at hr;rw[if_pos hpos] at hr;injection hr with hr
 subst hr;have ho0:=ho;rcases ho.2 with ⟨_,h0⟩ | ⟨g,cap,cur,o,rfl,hb,hg,hcap,hmax,hsz,htk⟩
 ·omega
 have hgs:g<w.heap.size:=(Array.getElem?_eq_some_iff.1 hg).1;have hcall:=Go.Proofs.AnyE.slices_Compact L (Value.int .i64) (λ_=>rfl) (Go.Proofs.EqlAt.intD P _ _) (Go.Proofs.NeqAt.intD P _ _) 0 v23 g o cap l.toArray w (ownsInts (cur:=cur) hxs ho0) (by simp only[List.size_toArray];unfold maxLen at hmax;omega) (by simpa using hcap);refine hcall.mono ?_;rintro e' w' ⟨rfl,n,rfl⟩;obtain ⟨h1,h2,h3⟩:=ZrV (n:=n) (o:=o) (d:=(Lib.compactUpTo l.toArray l.toArray.size++List.replicate (l.toArray.size-(Lib.compactUpTo l.toArray l.toArray.size).length) 0).toArray) (os:=#[]) hg;have hgr:∀ W:World,grow W #[]=W:=λW=>by unfold grow;simp
 rw[hgr] at h1 h2 h3;have hle:(ZtV l).length<=l.length:=Zwt l;have hgf:g∈f:=by rw[ef];simp[YC]
 have hfg:f=[g]:=by rw[ef];simp[YC]
 refine ⟨_,[.slice (some ⟨g,o,none⟩) (ZtV l).length cap],(ZtV l,()),(),S,[g],[],rfl,rfl,hK,⟨rfl,rfl,rfl,h3,λb hb hbf=>h2 b hb (λe=>hbf (by rw[e];exact hgf))⟩,λb h=>h,λb h=>⟨Nat.lt_of_lt_of_le (hS b h) h3,λ_=>.inl h⟩,⟨_,[],[g],[],rfl,rfl,⟨⟨λh=>(by cases h),λ_=>rfl⟩,?_⟩,rfl,rfl⟩,⟨_,[],rfl,rfl⟩,by simp,?_⟩
 ·refine ⟨_,(ZtV l).map (Value.int .i64),[],rfl,⟨by show ((ZtV l).map (Value.int .i64)).length=_;rw[List.length_map];exact (Nat.mul_one _).symm,.inr ⟨g,cap,_,o,rfl,hb,h1,Nat.le_trans hle hcap,hmax,by rw[Zms];exact hsz,?_⟩⟩,(ZlT _ _ _).2 ⟨rfl,rfl⟩,by simp[YC]⟩
  have hsz:o+cap*1<=cur.size:=hsz;have hlen:(Lib.compactUpTo l.toArray l.toArray.size++List.replicate (l.toArray.size-(Lib.compactUpTo l.toArray l.toArray.size).length) (0:Int)).length=l.length:=by
   have hle:(Lib.compactUpTo l.toArray l.toArray.size).length<=l.length:=hle;rw[List.length_append,List.length_replicate,List.size_toArray] at *;omega
  show ((putCells (Value.int .i64) o _ cur).toList.drop o).take ((ZtV l).length*1)=_;rw[Nat.mul_one,Zmt (by rw[hlen];omega) (by rw[hlen];exact hle)];congr 1;exact List.take_left' rfl
 ·intro g' hg'
  have:g'=g:=by simpa using hg'
  subst this;exact ⟨(hfp g' hgf).1,Nat.lt_of_lt_of_le hgs h3,.inr hgf⟩
end Go.Sx
