/-
  slices.SortFunc at lists of one's own of structs of plain data, by a key: by the kit's summary.
-/
import Derived.Test.YtpkjbcbepmpddaaGreatDoorE1
import Derived.Shelf.SlSortCmp.WholeK
import Derived.Shelf.SlSortCmp.NoneTotal
namespace Go.Sx
set_option linter.unusedVariables false
set_option linter.unusedSimpArgs false
open Go.Sort
open Go.Proofs (ltOf sortWorldK)
def ZqS:(t:Ty)->t.den->List Value
 | .int k,n=>[.int k n]
 | .bool,b=>[.bool b]
 | .str,s=>[.string ⟨s.toArray⟩]
 | .pair a b,d=>ZqS a d.1++ZqS b d.2
 | _,_=>[]
theorem Zpn {S:Nat->Prop} {w:World}:∀ (t:Ty),t.flat=true->∀ (d:t.den) (vs:List Value),rep S w t d vs<->vs=ZqS t d
 | .int _,_,_,_=>Iff.rfl
 | .bool,_,_,_=>Iff.rfl
 | .str,_,_,_=>Iff.rfl
 | .unit,_,_,_=>Iff.rfl
 | .pair a b,hf,d,vs=>by
  simp only[Ty.flat,Bool.and_eq_true] at hf;constructor
  ·rintro ⟨v1,v2,rfl,h1,h2⟩
   rw[(Zpn a hf.1 _ _).1 h1,(Zpn b hf.2 _ _).1 h2];rfl
  ·rintro rfl
   exact ⟨_,_,rfl,(Zpn a hf.1 _ _).2 rfl,(Zpn b hf.2 _ _).2 rfl⟩
 | .sl _,hf,_,_=>by simp[Ty.flat] at hf
 | .ptr _,hf,_,_=>by simp[Ty.flat] at hf
 | .fn _ _,hf,_,_=>by simp[Ty.flat] at hf
 | .nptr _,hf,_,_=>by simp[Ty.flat] at hf
 | .mp _ _,hf,_,_=>by simp[Ty.flat] at hf
theorem ZnC:∀ (t:Ty),t.flat=true->∀ d:t.den,(ZqS t d).length=t.size
 | .int _,_,_=>rfl
 | .bool,_,_=>rfl
 | .str,_,_=>rfl
 | .unit,_,_=>rfl
 | .pair a b,hf,d=>by
  simp only[Ty.flat,Bool.and_eq_true] at hf;show (ZqS a d.1++ZqS b d.2).length=a.size+b.size;rw[List.length_append,ZnC a hf.1,ZnC b hf.2]
 | .sl _,hf,_=>by simp[Ty.flat] at hf
 | .ptr _,hf,_=>by simp[Ty.flat] at hf
 | .fn _ _,hf,_=>by simp[Ty.flat] at hf
 | .nptr _,hf,_=>by simp[Ty.flat] at hf
 | .mp _ _,hf,_=>by simp[Ty.flat] at hf
theorem Zt4:∀ (t:Ty) (d:t.den),∀ v∈ZqS t d,v.oneCell'=true
 | .int _,_,v,h=>by rw[List.mem_singleton.1 h];rfl
 | .bool,_,v,h=>by rw[List.mem_singleton.1 h];rfl
 | .str,_,v,h=>by rw[List.mem_singleton.1 h];rfl
 | .unit,_,v,h=>by cases h
 | .pair a b,d,v,h=>by
  rcases List.mem_append.1 h with h | h
  ·exact Zt4 a _ v h
  ·exact Zt4 b _ v h
 | .sl _,_,v,h=>by cases h
 | .ptr _,_,v,h=>by cases h
 | .fn _ _,_,v,h=>by cases h
 | .nptr _,_,v,h=>by cases h
 | .mp _ _,_,v,h=>by cases h
theorem Zlz {S:Nat->Prop} {w:World} {t:Ty} (ht:t.flat=true):∀ (l:List t.den) (xs:List Value) (fp:List Nat),ZaA (Zh5 S w (.flat t)) l xs fp<->xs=(l.map (ZqS t)).flatten/\fp=[]
 | [],xs,fp=>Iff.rfl
 | d::l,xs,fp=>by
  constructor
  ·rintro ⟨v1,v2,f1,f2,rfl,rfl,⟨rfl,h1⟩,h2⟩
   obtain ⟨rfl,rfl⟩:=(Zlz ht l v2 f2).1 h2;have h1:=(Zpn t ht _ _).1 h1;subst h1;exact ⟨rfl,rfl⟩
  ·rintro ⟨rfl,rfl⟩
   exact ⟨ZqS t d,_,[],[],rfl,rfl,⟨rfl,(Zpn t ht _ _).2 rfl⟩,(Zlz ht l _ _).2 ⟨rfl,rfl⟩⟩
theorem Zve {α:Type} [Inhabited α] {enc:α->List Value} {k:Nat} (hk:0<k) (he:∀ x,(enc x).length=k):∀ (ds:List α) (t:Nat),t<ds.length*k->((ds.map enc).flatten)[t]?=some ((enc ds[t / k]!)[t % k]!)
 | [],t,h=>by simp at h
 | d::ds,t,h=>by
  rw[List.map_cons,List.flatten_cons];by_cases ht:t<k
  ·rw[List.getElem?_append_left (by rw[he];exact ht),Nat.div_eq_of_lt ht,Nat.mod_eq_of_lt ht]
   rw[List.getElem?_eq_getElem (by rw[he];exact ht)];congr 1;show _=(enc d)[t]!;rw[getElem!_pos (enc d) t (by rw[he];exact ht)]
  ·rw[List.getElem?_append_right (by rw[he];omega),he,Zve hk he ds (t-k) (by rw[List.length_cons,Nat.succ_mul] at h;omega)]
   have e1:t / k=(t-k) / k+1:=by
    rw[Nat.div_eq,if_pos ⟨hk,by omega⟩]
   have e2:t % k=(t-k) % k:=Nat.mod_eq_sub_mod (by omega);rw[e1,e2];rfl
theorem Zz7 {α:Type} {enc:α->List Value} {k:Nat} (he:∀ x,(enc x).length=k) (ds:List α):((ds.map enc).flatten).length=ds.length*k:=by
 induction ds with
 | nil=>simp
 | cons d ds ih=>rw[List.map_cons,List.flatten_cons,List.length_append,ih,List.length_cons,Nat.succ_mul,he];omega
theorem Zti {α:Type} [Inhabited α] {enc:α->List Value} {k:Nat} (he:∀ x,(enc x).length=k) (ds:Array α):(flatK enc k ds).toList=(ds.toList.map enc).flatten:=by
 have hlen:=Zz7 he ds.toList;have hs:(flatK enc k ds).toList.length=ds.toList.length*k:=by rw[Array.length_toList,size_flatK];simp
 apply List.ext_getElem?;intro t;by_cases ht:t<ds.toList.length*k
 ·have hk:0<k:=by
   rcases Nat.eq_zero_or_pos k with h | h
   ·subst h;simp at ht
   ·exact h
  rw[Zve hk he ds.toList t ht,List.getElem?_eq_getElem (by omega)];congr 1;have h1:=get_flatK enc k ds t (by simpa using ht);rw[getElem!_pos _ t (by rw[size_flatK];simpa using ht)] at h1;rw[Array.getElem_toList,h1];congr 2;have hq:t / k<ds.size:=(Nat.div_lt_iff_lt_mul hk).2 (by simpa using ht);rw[getElem!_pos ds _ hq,getElem!_pos ds.toList _ (by simpa using hq)];rfl
 ·rw[List.getElem?_eq_none (by omega),List.getElem?_eq_none (by omega)]
theorem ZwL {α:Type} {key:α->Int}:∀ {a b:List α},a.Pairwise (λx y=>key x<key y)->b.Pairwise (λx y=>key x<key y)->(∀ x,x∈a<->x∈b)->a=b
 | [],[],_,_,_=>rfl
 | [],y::b,_,_,h=>by have:=(h y).2 List.mem_cons_self;cases this
 | x::a,[],_,_,h=>by have:=(h x).1 List.mem_cons_self;cases this
 | x::a,y::b,ha,hb,h=>by
  obtain ⟨a1,a2⟩:=List.pairwise_cons.1 ha;obtain ⟨b1,b2⟩:=List.pairwise_cons.1 hb;have exy:x=y:=by
   rcases List.mem_cons.1 ((h x).1 List.mem_cons_self) with e | q
   ·exact e
   ·rcases List.mem_cons.1 ((h y).2 List.mem_cons_self) with e | q2
    ·exact e.symm
    ·have:=a1 y q2
     have:=b1 x q;omega
  subst exy;rw[ZwL a2 b2 λz=>?_];constructor
  ·intro hz
   rcases List.mem_cons.1 ((h z).1 (List.mem_cons_of_mem _ hz)) with e | q
   ·have:=a1 z hz;rw[e] at this;omega
   ·exact q
  ·intro hz
   rcases List.mem_cons.1 ((h z).2 (List.mem_cons_of_mem _ hz)) with e | q
   ·have:=b1 z hz;rw[e] at this;omega
   ·exact q
noncomputable def ZAq {α:Type} (key:α->Int) (l:List α):Option (List α) :=
 open Classical in if h:∃ r:List α,r.Perm l/\r.Pairwise (λx y=>key x<key y)/\(l.length:Int)<4611686018427387904 then some (Classical.choose h) else none
theorem Ztp {α:Type} {key:α->Int} {l r:List α}:ZAq key l=some r<->r.Perm l/\r.Pairwise (λx y=>key x<key y)/\(l.length:Int)<4611686018427387904:=by
 unfold ZAq;constructor
 ·intro h
  split at h
  ·rename_i hx
   injection h with h
   have:=Classical.choose_spec hx;rw[h] at this;exact this
  ·cases h
 ·intro h
  have hx:∃ r:List α,r.Perm l/\r.Pairwise (λx y=>key x<key y)/\(l.length:Int)<4611686018427387904:=⟨r,h⟩;rw[dif_pos hx];congr 1;have hs:=Classical.choose_spec hx;exact ZwL hs.2.1 h.2.1 λx=>by rw[hs.1.mem_iff,h.1.mem_iff]
def ZzG (et:TypeId) (t:Ty) (key:t.den->Int) (cb:FuncId):Ctr:=⟨[.back (.ol et (.flat t)),.dat (.fn cb .unit)],[],λ(a:List t.den×Unit×Unit) K=>Zv a λl _=>Yw (ZAq key l) λr=>K () (r,())⟩
theorem ZCk {α:Type} (key:α->Int) (x y:α):ltOf (λx y:α=>Lib.compareInt (key x) (key y)) x y=decide (key x<key y):=by
 unfold ltOf Lib.compareInt;by_cases h1:key x<key y
 ·simp[h1]
 ·by_cases h2:key y<key x<;>simp[h1,h2]
theorem ZGH {α:Type} (key:α->Int):SWO (ltOf λx y:α=>Lib.compareInt (key x) (key y)) where
 irrefl x:=by rw[ZCk];simp
 trans x y z h1 h2:=by rw[ZCk] at *;simp at *;omega
 ntrans x y z h1 h2:=by rw[ZCk] at *;simp at *;omega
theorem ZAZ {α:Type} [Inhabited α] {enc:α->List Value} {k:Nat} {w:World} {g o:Nat} {cur:Array Value} {et:TypeId} {n:Nat} {d:Array α} {os:Array Obj} (hg:w.heap[g]?=some (.cells cur et (0,0))) :
  (sortWorldK enc k w g o n d os).heap[g]?=some (.cells (putCells id o (flatK enc k d) cur) et (0,0))/\(∀ b,b<w.heap.size->b≠g->(sortWorldK enc k w g o n d os).heap[b]?=w.heap[b]?)/\w.heap.size<=(sortWorldK enc k w g o n d os).heap.size:=by
 have hgs:g<w.heap.size:=(Array.getElem?_eq_some_iff.1 hg).1;have hsz:(putRowK enc k (Go.Sort.ahead w n) g o d).heap.size=w.heap.size:=by
  show ((Go.Sort.ahead w n).heap.modify g _).size=_;rw[Array.size_modify];rfl
 have hl:∀ b,b<w.heap.size->(sortWorldK enc k w g o n d os).heap[b]?=(putRowK enc k (Go.Sort.ahead w n) g o d).heap[b]?:=λb hb=>by
  show ((putRowK enc k (Go.Sort.ahead w n) g o d).heap++os)[b]?=_;rw[Array.getElem?_append_left (by rw[hsz];exact hb)]
 refine ⟨?_,λb hb hbg=>?_,?_⟩
 ·rw[hl g hgs]
  show ((Go.Sort.ahead w n).heap.modify g _)[g]?=_;rw[Array.getElem?_modify,if_pos rfl];show ((w.heap)[g]?).map _=_;rw[hg];rfl
 ·rw[hl b hb]
  show ((Go.Sort.ahead w n).heap.modify g _)[b]?=_;rw[Array.getElem?_modify,if_neg (λh=>hbg h.symm)];rfl
 ·show w.heap.size<=((putRowK enc k (Go.Sort.ahead w n) g o d).heap++os).size
  rw[Array.size_append,hsz];exact Nat.le_add_right _ _
theorem ZsU {F:Array Value} {cur:Array Value} {o:Nat} (h:o+F.size<=cur.size):((putCells id o F cur).toList.drop o).take F.size=F.toList:=by
 apply List.ext_getElem?;intro j;by_cases hj:j<F.size
 ·rw[List.getElem?_take,if_pos hj,List.getElem?_drop,Array.getElem?_toList]
  unfold putCells;rw[Array.getElem?_mapIdx,Array.getElem?_eq_getElem (by omega),Option.map_some,if_pos ⟨by omega,by omega⟩,show o+j-o=j by omega,Array.getElem?_toList,Array.getElem?_eq_getElem hj,getElem!_pos F j hj];rfl
 ·rw[List.getElem?_eq_none (by rw[List.length_take];omega),List.getElem?_eq_none (by rw[Array.length_toList];omega)]
theorem Zw4 {P:Program} {ρ:Go.Shelf.Ren} (L:Go.Proofs.SlLaysF0.n6 P ρ) (et:TypeId) (t:Ty) (ht:t.flat=true) (aE:∀ w,(isAgg (ρ.t 24)).run P w=.ok true w) (zE:∀ w,(Go.sizeOf (ρ.t 24)).run P w=.ok t.size w) (key:t.den->Int) (cb:FuncId) (hcall:ZlI P (ρ.f 6))
  (eg:∀ args w,(callFunc cb args).run P w=.ok (.enter cb args) w)
  (hcmp:∀ (x y:t.den) (W:World),Calls P cb #[.agg (ZqS t x).toArray,.agg (ZqS t y).toArray] W λe w'=>e=.returned (.int .i64 (Lib.compareInt (key x) (key y)))/\∃ q os',w'=grow (W.drewN q) os'):Za P (ρ.f 6) (ZzG et t key cb):=by
 refine ⟨hcall,λw S vs aa fp K hS _ hd hnd hfp hK=>?_⟩;obtain ⟨(l:List t.den),(u:Unit),⟨⟩⟩:=aa;obtain ⟨v,vr,f,fr,rfl,rfl,⟨hform,hrep⟩,c,vr2,f2,fr2,rfl,rfl,⟨rfl,_,hc2,hcr⟩,rfl,rfl⟩:=hd;have hc:=hform.2 rfl;rw[hc] at hrep;obtain ⟨v',xs,fps,e1,ho,hr,ef⟩:=hrep;have e1:v=v':=by simpa using e1
 subst e1;have ho:w.JF 0 et t.size v l.length xs:=ho;have hr:ZaA (Zh5 S w (.flat t)) l xs fps:=hr;obtain ⟨hxs,rfl⟩:=(Zlz ht _ _ _).1 hr;have hcv:c=.func (.func cb) #[] #[]:=by
  rw[hc2 rfl] at hcr;obtain ⟨ys,e,hy⟩:=hcr;have hy:ys=[]:=hy;subst hy;simpa using e
 subst hcv;rw[List.append_nil,List.append_nil] at hnd hfp ⊢;obtain ⟨r,hr,hK⟩:∃ r,ZAq key l=some r/\K () (r,()):=hK;obtain ⟨hp,hinc,hsm⟩:=Ztp.1 hr;have done:∀ (w':World),Keeps ⟨w,S,λb=>b∈f,[]⟩ w'->ZvW S w' (.back (.ol et (.flat t))) r v f->
   ∃ v0 us rs ios S' fr fio,Ending.returned (Value.tuple #[])=.returned v0/\retv us v0/\K rs ios/\Keeps ⟨w,S,λb=>b∈f,[]⟩ w'/\(∀ b,S b->S' b)/\
    (∀ b,S' b->b<w'.heap.size/\(b<w.heap.size->S b\/b∈f))/\ZeA S' w' [] rs us fr/\Zik S' w' [.back (.ol et (.flat t)),.dat (.fn cb .unit)] ios [v,.func (.func cb) #[] #[]] fio/\
    (fio++fr).Nodup/\∀ g∈fio++fr,¬S' g/\g<w'.heap.size/\(w.heap.size<=g\/g∈f):=by
  intro w' hk hsh;refine ⟨_,[],(),(r,()),S,[],f,rfl,rfl,hK,hk,λb h=>h,λb h=>⟨Nat.lt_of_lt_of_le (hS b h) hk.size,λ_=>.inl h⟩,⟨rfl,rfl⟩,⟨v,_,f,[],rfl,by simp,hsh,_,[],rfl,rfl⟩,?_,?_⟩
  ·rw[List.append_nil];exact hnd
  ·intro g hg
   rw[List.append_nil] at hg;exact ⟨(hfp g hg).1,Nat.lt_of_lt_of_le (hfp g hg).2 hk.size,.inr hg⟩
 by_cases hl:l=[]
 ·subst hl
  have hr0:r=[]:=List.Perm.eq_nil hp;subst hr0;have ho2:∃ a cap,v=.slice a 0 cap:=by
   rcases ho.2 with ⟨rfl,_⟩ | ⟨g,cap,cur,o,rfl,_⟩
   ·exact ⟨none,0,rfl⟩
   ·exact ⟨_,_,rfl⟩
  obtain ⟨a,cap,rfl⟩:=ho2;refine (Go.Proofs.AnyF.slices_SortFunc_none {L with} a cap _ w).mono ?_
  rintro e' w' ⟨rfl,rfl⟩;exact done w' ⟨rfl,rfl,rfl,Nat.le_refl _,λ_ _ _=>rfl⟩ ⟨hform,by rw[hc];exact ⟨_,xs,[],rfl,ho,(Zlz ht _ _ _).2 ⟨hxs,rfl⟩,ef⟩⟩
 ·have hn:0<l.length:=List.length_pos_iff.2 hl
  rcases ho.2 with ⟨_,h0⟩ | ⟨g,cap,cur,o,rfl,hb,hg,hcap,hmax,hsz,htk⟩
  ·omega
  haveI:Inhabited t.den:=⟨l[0]'hn⟩
  have hF:(flatK (ZqS t) t.size l.toArray).toList=xs:=by rw[Zti (ZnC t ht),hxs]
  have hFs:(flatK (ZqS t) t.size l.toArray).size=l.length*t.size:=by rw[size_flatK];simp
  have hHold:HoldsK (ZqS t) t.size w g o l.toArray:=by
   intro j hj;constructor
   ·have hx:xs[j]?=some ((flatK (ZqS t) t.size l.toArray)[j]!):=by
     rw[<-hF,Array.getElem?_toList,Array.getElem?_eq_getElem hj,getElem!_pos _ j hj]
    have:=ho.Zhy rfl j _ hx;rw[Addr.add_lit] at this;exact this
   ·unfold World.frozen?
    simp[hg]
  have hgs:g<w.heap.size:=(Array.getElem?_eq_some_iff.1 hg).1;have hcall:=Go.Proofs.AnyQ.slices_SortFunc L t.size aE zE (ZqS t) (ZnC t ht) (Zt4 t) (λx y=>Lib.compareInt (key x) (key y)) (ZGH key) cb #[] g o cap l.toArray w eg (λm os dk _ x y=>by simpa using hcmp x y _) hHold hgs (by simp only[List.size_toArray];omega);rw[show (l.toArray).size=l.length by simp] at hcall;refine hcall.mono ?_;rintro e' w' ⟨rfl,d',n,os,hpm,hst,rfl⟩;obtain ⟨p1,_,p3⟩:=hpm;have p1:d'.size=l.length:=by simpa using p1
  have hperm:d'.toList.Perm l:=by
   have e1:d'.extract 0 l.length=d':=by rw[<-p1,Array.extract_size]
   have e2:l.toArray.extract 0 l.length=l.toArray:=by
    have:l.length=l.toArray.size:=by simp
    rw[this,Array.extract_size]
   rw[e1,e2] at p3;exact p3
  have hkn:(r.map key).Nodup:=by
   refine List.pairwise_map.2 (hinc.imp λh=>?_);omega
  have hkd:(d'.toList.map key).Nodup:=((hperm.trans hp.symm).map key).nodup_iff.2 hkn;have hdinc:d'.toList.Pairwise (λx y=>key x<key y):=by
   rw[List.pairwise_iff_getElem];intro i j hi hj hij;rw[Array.length_toList] at hi hj;have h1:=hst i j (Nat.zero_le _) hij (by omega);rw[ZCk,getElem!_pos d' i (by omega),getElem!_pos d' j (by omega)] at h1;simp only[decide_eq_false_iff_not] at h1;have h2:key d'[i]≠key d'[j]:=by
    have:=List.pairwise_iff_getElem.1 hkd i j (by simpa using hi) (by simpa using hj) hij;simpa using this
   simp only[Array.getElem_toList];omega
  have hrd:d'.toList=r:=ZwL hdinc hinc λx=>by rw[hperm.mem_iff,hp.mem_iff]
  have hrl:r.length=l.length:=by rw[<-hrd,Array.length_toList,p1]
  obtain ⟨hh1,hh2,hh3⟩:=ZAZ (enc:=ZqS t) (k:=t.size) (o:=o) (n:=n) (d:=d') (os:=os) hg;have hF2:(flatK (ZqS t) t.size d').toList=(r.map (ZqS t)).flatten:=by rw[Zti (ZnC t ht),hrd]
  have hFs2:(flatK (ZqS t) t.size d').size=l.length*t.size:=by rw[size_flatK,p1]
  have hmul:l.length*t.size<=cap*t.size:=Nat.mul_le_mul_right _ hcap;have hgf:g∈f:=by rw[ef];simp[YC]
  refine done _ ⟨rfl,rfl,rfl,hh3,λb hb hbf=>hh2 b hb (λe=>hbf (by rw[e];exact hgf))⟩ ⟨⟨λh=>(by cases h),λ_=>hc⟩,?_⟩;rw[hc];refine ⟨_,(r.map (ZqS t)).flatten,[],rfl,⟨?_,.inr ⟨g,cap,_,o,by rw[hrl],hb,hh1,by rw[hrl];exact hcap,hmax,?_,?_⟩⟩,(Zlz ht _ _ _).2 ⟨rfl,rfl⟩,ef⟩
  ·rw[hrl,<-hF2,Array.length_toList,hFs2]
  ·unfold putCells;rw[Array.size_mapIdx];exact hsz
  ·rw[hrl,<-hF2,<-hFs2]
   exact ZsU (by rw[hFs2];omega)
end Go.Sx
