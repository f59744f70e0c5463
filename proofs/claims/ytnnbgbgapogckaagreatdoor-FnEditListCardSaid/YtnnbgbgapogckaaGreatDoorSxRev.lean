/-
  slices.Reverse at lists of one's own, with all that their elements own: by the kit's summary.
-/
import Derived.Test.YtnnbgbgapogckaaGreatDoorSxCall
import Derived.Shelf.SlicesQ.Reverse
namespace Go.Sx
set_option linter.unusedVariables false
set_option linter.unusedSimpArgs false
open Go.Sort
def ZCJ {α β:Type} (R:α→β→Prop):List α→List β→Prop
 | [],[]=>True
 | a::l,b::m=>R a b∧ZCJ R l m
 | _,_=>False
theorem ZCO {α β:Type} {R:α→β→Prop}:∀ {l l':List α} {m m':List β},ZCJ R l m→ZCJ R l' m'→ZCJ R (l++l') (m++m')
 | [],_,[],_,_,h=>h
 | _::_,_,_::_,_,h,h'=>⟨h.1,ZCO h.2 h'⟩
 | [],_,_::_,_,h,_=>h.elim
 | _::_,_,[],_,h,_=>h.elim
theorem ZCK {α β:Type} {R:α→β→Prop}:∀ {l:List α} {m:List β},ZCJ R l m→ZCJ R l.reverse m.reverse
 | [],[],_=>trivial
 | _::_,_::_,h=>by
  rw [List.reverse_cons,List.reverse_cons]
  exact ZCO (ZCK h.2) ⟨h.1,trivial⟩
 | [],_::_,h=>h.elim
 | _::_,[],h=>h.elim
theorem ZCP {α β:Type} {R:α→β→Prop}:∀ {l:List α} {m:List β},ZCJ R l m→l.length=m.length
 | [],[],_=>rfl
 | _::_,_::_,h=>by rw [List.length_cons,List.length_cons,ZCP h.2]
 | [],_::_,h=>h.elim
 | _::_,[],h=>h.elim
theorem ZCU {α β:Type} {R:α→β→Prop}:∀ {l:List α} {m:List β},ZCJ R l m→∀ b∈m,∃ a,R a b
 | [],[],_,b,hb=>by cases hb
 | a::_,_::_,h,b,hb=>by
  rcases List.mem_cons.1 hb with hb | hb
  ·exact ⟨a,by rw [hb];exact h.1⟩
  ·exact ZCU h.2 b hb
 | [],_::_,h,_,_=>h.elim
 | _::_,[],h,_,_=>h.elim
theorem ZCZ {α:Type} {R:α→List Value→List Nat→Prop}:∀ (l:List α) (xs:List Value) (fp:List Nat),Qc R l xs fp→∃ cs:List (List Value×List Nat),xs=(cs.map Prod.fst).flatten∧fp=(cs.map Prod.snd).flatten∧ZCJ (fun d c=>R d c.1 c.2) l cs
 | [],xs,fp,h=>⟨[],h.1,h.2,trivial⟩
 | d::l,xs,fp,⟨v1,v2,f1,f2,e,ef,r,rs⟩=>by
  obtain ⟨cs,h1,h2,h3⟩:=ZCZ l v2 f2 rs
  exact ⟨(v1,f1)::cs,by rw [e,h1];rfl,by rw [ef,h2];rfl,r,h3⟩
theorem ZCQ {α:Type} {R:α→List Value→List Nat→Prop}:∀ (l:List α) (cs:List (List Value×List Nat)),ZCJ (fun d c=>R d c.1 c.2) l cs→Qc R l (cs.map Prod.fst).flatten (cs.map Prod.snd).flatten
 | [],[],_=>⟨rfl,rfl⟩
 | d::l,c::cs,h=>⟨c.1,_,c.2,_,rfl,rfl,h.1,ZCQ l cs h.2⟩
 | [],_::_,h=>h.elim
 | _::_,[],h=>h.elim
abbrev Cl (k:Nat):Type:={c:List Value // c.length=k∧∀ v∈c,v.oneCell'=true}
instance (k:Nat):Inhabited (Cl k):=⟨⟨List.replicate k (.bool false),by simp,fun v hv=>by rw [(List.mem_replicate.1 hv).2];rfl⟩⟩
theorem ZDS (k:Nat):∀ (cs:List (List Value)),(∀ c∈cs,c.length=k∧∀ v∈c,v.oneCell'=true)→∃ ds:List (Cl k),ds.map Subtype.val=cs
 | [],_=>⟨[],rfl⟩
 | c::cs,h=>by
  obtain ⟨ds,e⟩:=ZDS k cs fun x hx=>h x (List.mem_cons_of_mem _ hx)
  exact ⟨⟨c,h c (List.mem_cons_self ..)⟩::ds,by rw [List.map_cons,e]⟩
theorem flat_get {k:Nat} (hk:0<k):∀ (ds:List (Cl k)) (t:Nat),t<ds.length*k→((ds.map Subtype.val).flatten)[t]?=some ((ds[t / k]!).val[t % k]!)
 | [],t,h=>by simp at h
 | d::ds,t,h=>by
  have hd:d.val.length=k:=d.property.1
  rw [List.map_cons,List.flatten_cons]
  by_cases ht:t<k
  ·rw [List.getElem?_append_left (by omega),Nat.div_eq_of_lt ht,Nat.mod_eq_of_lt ht]
   rw [List.getElem?_eq_getElem (by omega)]
   congr 1
   show _=d.val[t]!
   rw [getElem!_pos d.val t (by omega)]
  ·rw [List.getElem?_append_right (by omega),hd,flat_get hk ds (t-k) (by rw [List.length_cons,Nat.succ_mul] at h;omega)]
   have e1:t / k=(t-k) / k+1:=by
    rw [Nat.div_eq,if_pos ⟨hk,by omega⟩]
   have e2:t % k=(t-k) % k:=Nat.mod_eq_sub_mod (by omega)
   rw [e1,e2]
   rfl
theorem ZDp {k:Nat} (ds:List (Cl k)):(flatK (fun x:Cl k=>x.val) k ds.toArray).toList=(ds.map Subtype.val).flatten:=by
 have hlen:((ds.map Subtype.val).flatten).length=ds.length*k:=by
  induction ds with
  | nil=>simp
  | cons d ds ih=>rw [List.map_cons,List.flatten_cons,List.length_append,ih,List.length_cons,Nat.succ_mul,d.property.1];omega
 have hs:(flatK (fun x:Cl k=>x.val) k ds.toArray).toList.length=ds.length*k:=by
  rw [Array.length_toList,size_flatK];simp
 apply List.ext_getElem?
 intro t
 by_cases ht:t<ds.length*k
 ·have hk:0<k:=by
   rcases Nat.eq_zero_or_pos k with h | h
   ·subst h;simp at ht
   ·exact h
  rw [flat_get hk ds t ht,List.getElem?_eq_getElem (by omega)]
  congr 1
  have h1:=get_flatK (fun x:Cl k=>x.val) k ds.toArray t (by simpa using ht)
  rw [getElem!_pos _ t (by rw [size_flatK];simpa using ht)] at h1
  rw [Array.getElem_toList,h1]
  congr 2
  simp
 ·rw [List.getElem?_eq_none (by omega),List.getElem?_eq_none (by omega)]
def ZDL (et:TypeId) (e:Dp):Ctr:=⟨[.back (.ol et e)],[],fun (a:List e.ty.den×Unit) K=>splitK a fun l _=>K () (l.reverse,())⟩
theorem ZDB {F:Array Value} {cur:Array Value} {o:Nat} (h:o+F.size≤cur.size):((putCells id o F cur).toList.drop o).take F.size=F.toList:=by
 apply List.ext_getElem?
 intro j
 by_cases hj:j<F.size
 ·rw [List.getElem?_take,if_pos hj,List.getElem?_drop,Array.getElem?_toList]
  unfold putCells
  rw [Array.getElem?_mapIdx,Array.getElem?_eq_getElem (by omega),Option.map_some,if_pos ⟨by omega,by omega⟩,show o+j-o=j by omega,Array.getElem?_toList,Array.getElem?_eq_getElem hj,getElem!_pos F j hj]
  rfl
 ·rw [List.getElem?_eq_none (by rw [List.length_take];omega),List.getElem?_eq_none (by rw [Array.length_toList];omega)]
theorem ZDH {P:Program} {ρ:Go.Shelf.Ren} (L:Go.Proofs.SlLaysE0.n35 P ρ) (et:TypeId) (e:Dp) (aE:∀ w,(isAgg (ρ.t 23)).run P w=.ok true w) (zE:∀ w,(Go.sizeOf (ρ.t 23)).run P w=.ok e.ty.size w) (hcall:Ze1 P (ρ.f 35)):Zd P (ρ.f 35) (ZDL et e):=by
 refine ⟨hcall,fun w S vs aa fp K hS hd hnd hfp hK=>?_⟩
 obtain ⟨(l:List e.ty.den),⟨⟩⟩:=aa
 obtain ⟨v,vr,f,fr,rfl,rfl,⟨hform,hrep⟩,rfl,rfl⟩:=hd
 have hc:=hform.2 rfl
 rw [hc] at hrep
 obtain ⟨v',xs,fps,e1,ho,hr,ef⟩:=hrep
 have e1:v=v':=by simpa using e1
 subst e1
 have ho:w.Y9 0 et e.ty.size v l.length xs:=ho
 have hr:Qc (JK S w e) l xs fps:=hr
 rw [List.append_nil] at hnd hfp ⊢
 have hK:K () (l.reverse,()):=hK
 have done:∀ (w':World) (fio:List Nat),Keeps ⟨w,S,fun b=>b∈f,[]⟩ w'→Zil S w' (.back (.ol et e)) l.reverse v fio→fio.Perm f→
   ∃ v0 us rs ios S' fr fio,Ending.returned (Value.tuple #[])=.returned v0∧retv us v0∧K rs ios∧Keeps ⟨w,S,fun b=>b∈f,[]⟩ w'∧(∀ b,S b→S' b)∧
    (∀ b,S' b→b<w'.heap.size∧(b<w.heap.size→S b∨b∈f))∧Vw S' w' [] rs us fr∧Jd S' w' [.back (.ol et e)] ios [v] fio∧
    (fio++fr).Nodup∧∀ g∈fio++fr,¬S' g∧g<w'.heap.size∧(w.heap.size≤g∨g∈f):=by
  intro w' fio hk hsh hp
  refine ⟨_,[],(),(l.reverse,()),S,[],fio,rfl,rfl,hK,hk,fun b h=>h,fun b h=>⟨Nat.lt_of_lt_of_le (hS b h) hk.size,fun _=>.inl h⟩,⟨rfl,rfl⟩,⟨v,[],fio,[],rfl,by simp,hsh,rfl⟩,?_,?_⟩
  ·rw [List.append_nil];exact hp.nodup_iff.2 hnd
  ·intro g hg
   rw [List.append_nil] at hg
   have hg2:=hp.mem_iff.1 hg
   exact ⟨(hfp g hg2).1,Nat.lt_of_lt_of_le (hfp g hg2).2 hk.size,.inr hg2⟩
 by_cases hl:l=[]
 ·subst hl
  have ho2:∃ a cap,v=.slice a 0 cap:=by
   rcases ho.2 with ⟨rfl,_⟩ | ⟨g,cap,cur,o,rfl,_⟩
   ·exact ⟨none,0,rfl⟩
   ·exact ⟨_,_,rfl⟩
  obtain ⟨a,cap,rfl⟩:=ho2
  refine (Go.Proofs.AnyQ.slices_Reverse_empty L a cap w).mono ?_
  rintro e' w' ⟨rfl,rfl⟩
  exact done w' f ⟨rfl,rfl,rfl,Nat.le_refl _,fun _ _ _=>rfl⟩ ⟨hform,by rw [hc];exact ⟨_,xs,fps,rfl,ho,hr,ef⟩⟩ (List.Perm.refl _)
 ·obtain ⟨cs,ex,efp,hpr⟩:=ZCZ _ _ _ hr
  have hn:0<l.length:=List.length_pos_iff.2 hl
  rcases ho.2 with ⟨_,h0⟩ | ⟨g,cap,cur,o,rfl,hb,hg,hcap,hmax,hsz,htk⟩
  ·omega
  have hlc:=ZCP hpr
  obtain ⟨ds,hds⟩:=ZDS e.ty.size (cs.map Prod.fst) (fun c hc=>by
   obtain ⟨c0,h0,rfl⟩:=List.mem_map.1 hc
   obtain ⟨d,hd⟩:=ZCU hpr c0 h0
   exact ⟨Qx _ _ _ _ hd,ZfB _ _ _ (V8 (S':=fun _=>True) (fun _ _=>trivial) _ _ _ _ (fun _ _=>trivial) hd)⟩)
  have hdl:ds.length=l.length:=by rw [hlc,←List.length_map (f:=Prod.fst) («as»:=cs),←hds,List.length_map]
  have hF:(flatK (fun x:Cl e.ty.size=>x.val) e.ty.size ds.toArray).toList=xs:=by rw [ZDp,hds,ex]
  have hFs:(flatK (fun x:Cl e.ty.size=>x.val) e.ty.size ds.toArray).size=l.length*e.ty.size:=by rw [size_flatK];simp [hdl]
  have hHold:HoldsK (fun x:Cl e.ty.size=>x.val) e.ty.size w g o ds.toArray:=by
   intro j hj
   constructor
   ·have hx:xs[j]?=some ((flatK (fun x:Cl e.ty.size=>x.val) e.ty.size ds.toArray)[j]!):=by
     rw [←hF,Array.getElem?_toList,Array.getElem?_eq_getElem hj,getElem!_pos _ j hj]
    have:=ho.JM rfl j _ hx
    rw [Addr.add_lit] at this
    exact this
   ·unfold World.frozen?
    simp [hg]
  have hcall:=Go.Proofs.AnyQ.slices_Reverse L e.ty.size aE zE (fun x:Cl e.ty.size=>x.val) (fun x=>x.property.1) (fun x=>x.property.2) g o cap ds.toArray w hHold (by simp only [List.size_toArray];unfold maxLen at hmax;omega)
  rw [show (ds.toArray).size=l.length by simp [hdl]] at hcall
  refine hcall.mono ?_
  rintro e' w' ⟨rfl,n,rfl⟩
  have hrv:(ds.toArray).reverse=ds.reverse.toArray:=by simp
  rw [hrv]
  have hF2:(flatK (fun x:Cl e.ty.size=>x.val) e.ty.size ds.reverse.toArray).toList=(cs.reverse.map Prod.fst).flatten:=by
   rw [ZDp,List.map_reverse,hds,List.map_reverse]
  have hFs2:(flatK (fun x:Cl e.ty.size=>x.val) e.ty.size ds.reverse.toArray).size=l.length*e.ty.size:=by rw [size_flatK];simp [hdl]
  have hmul:l.length*e.ty.size≤cap*e.ty.size:=Nat.mul_le_mul_right _ hcap
  have hheap:(putRowK (fun x:Cl e.ty.size=>x.val) e.ty.size (Go.Sort.ahead w n) g o ds.reverse.toArray).heap[g]?=some (.cells (putCells id o (flatK (fun x:Cl e.ty.size=>x.val) e.ty.size ds.reverse.toArray) cur) et (0,0)):=by
   show ((Go.Sort.ahead w n).heap.modify g _)[g]?=_
   rw [Array.getElem?_modify,if_pos rfl]
   show ((w.heap)[g]?).map _=_
   rw [hg]
   rfl
  have hother:∀ b,b≠g→(putRowK (fun x:Cl e.ty.size=>x.val) e.ty.size (Go.Sort.ahead w n) g o ds.reverse.toArray).heap[b]?=w.heap[b]?:=by
   intro b hbg
   show ((Go.Sort.ahead w n).heap.modify g _)[b]?=_
   rw [Array.getElem?_modify,if_neg (fun h=>hbg h.symm)]
   rfl
  have hgf:g∈f:=by rw [ef];simp [ZH]
  have hnd2:f=g::fps:=by rw [ef];simp [ZH]
  have hgn:g ∉ fps:=by rw [hnd2] at hnd;exact (List.nodup_cons.1 hnd).1
  have hperm:(cs.reverse.map Prod.snd).flatten.Perm fps:=by
   rw [efp]
   exact ((List.reverse_perm cs).map Prod.snd).flatten
  refine done _ (g::(cs.reverse.map Prod.snd).flatten) ⟨rfl,rfl,rfl,?_,fun b hb hbf=>hother b (fun e=>hbf (by rw [e];exact hgf))⟩ ⟨⟨fun h=>(by cases h),fun _=>hc⟩,?_⟩ ?_
  ·show w.heap.size≤((Go.Sort.ahead w n).heap.modify g _).size
   rw [Array.size_modify]
   exact Nat.le_refl _
  ·rw [hc]
   have h1:=ZCQ l.reverse cs.reverse (ZCK hpr)
   refine ⟨_,(cs.reverse.map Prod.fst).flatten,(cs.reverse.map Prod.snd).flatten,rfl,⟨?_,.inr ⟨g,cap,_,o,by rw [List.length_reverse],hb,hheap,by rw [List.length_reverse];exact hcap,hmax,?_,?_⟩⟩,Z5 _ _ _ (fun d vs f' hs=>ZF (fun _ h=>h) (fun b hb=>hother b (fun e=>(hfp g hgf).1 (by rw [←e];exact hb))) e d vs f' (fun b hb=>hother b (fun e=>hgn (by rw [←e];exact hperm.mem_iff.1 (hs b hb))))) h1,by simp [ZH]⟩
   ·rw [List.length_reverse,←hF2,Array.length_toList,hFs2]
   ·unfold putCells;rw [Array.size_mapIdx];exact hsz
   ·rw [List.length_reverse,←hF2,←hFs2]
    exact ZDB (by rw [hFs2];omega)
  ·rw [hnd2]
   exact hperm.cons g
end Go.Sx
