/-
  slices.SortFunc at lists of one's own of structs of plain data, by a key: by the kit's summary.
-/
import Derived.Test.YtjkccpcebpeadaaGreatDoorE1
import Derived.Shelf.SlSortCmp.WholeK
import Derived.Shelf.SlSortCmp.NoneTotal
namespace Go.Sx
set_option linter.unusedVariables false
set_option linter.unusedSimpArgs false
open Go.Sort
open Go.Proofs (ltOf sortWorldK)
def Znu:(t:Ty)->t.den->List Value
 | .int k,n=>[.int k n]
 | .bool,b=>[.bool b]
 | .str,s=>[.string ⟨s.toArray⟩]
 | .pair a b,d=>Znu a d.1++Znu b d.2
 |_,_=>[]
theorem Zl3 {S:Nat->Prop} {w:World}:∀(t:Ty),t.flat=true->∀(d:t.den) (vs:List Value),rep S w t d vs<->vs=Znu t d
 | .int _,_,_,_=>KT
 | .bool,_,_,_=>KT
 | .str,_,_,_=>KT
 | .unit,_,_,_=>KT
 | .pair a b,f,d,vs=>by
  simp only[Ty.flat,Up]at f;constructor
  ·rintro⟨v1,v,rfl,h,H⟩
   rw[(Zl3 a f.1 _ _).1 h,(Zl3 b f.2 _ _).1 H];rfl
  ·rintro rfl
   exact⟨_,_,rfl,(Zl3 a f.1 _ _).2 rfl,(Zl3 b f.2 _ _).2 rfl⟩
 | .sl _,f,_,_=>by simp[Ty.flat]at f
 | .ptr _,f,_,_=>by simp[Ty.flat]at f
 | .fn _ _,f,_,_=>by simp[Ty.flat]at f
 | .nptr _,f,_,_=>by simp[Ty.flat]at f
 | .mp _ _,f,_,_=>by simp[Ty.flat]at f
theorem ZkD:∀(t:Ty),t.flat=true->∀d:t.den,(Znu t d).length=t.size
 | .int _,_,_=>rfl
 | .bool,_,_=>rfl
 | .str,_,_=>rfl
 | .unit,_,_=>rfl
 | .pair a b,f,d=>by
  simp only[Ty.flat,Up]at f;show(Znu a d.1++Znu b d.2).length=a.size+b.size;rw[Uh,ZkD a f.1,ZkD b f.2]
 | .sl _,f,_=>by simp[Ty.flat]at f
 | .ptr _,f,_=>by simp[Ty.flat]at f
 | .fn _ _,f,_=>by simp[Ty.flat]at f
 | .nptr _,f,_=>by simp[Ty.flat]at f
 | .mp _ _,f,_=>by simp[Ty.flat]at f
theorem Zp4:∀(t:Ty) (d:t.den),∀v∈Znu t d,v.oneCell'=true
 | .int _,_,v,h=>by rw[Ut.1 h];rfl
 | .bool,_,v,h=>by rw[Ut.1 h];rfl
 | .str,_,v,h=>by rw[Ut.1 h];rfl
 | .unit,_,v,h=>by cases h
 | .pair a b,d,v,h=>by
  rcases Uu.1 h with h|h
  ·exact Zp4 a _ v h
  ·exact Zp4 b _ v h
 | .sl _,_,v,h=>by cases h
 | .ptr _,_,v,h=>by cases h
 | .fn _ _,_,v,h=>by cases h
 | .nptr _,_,v,h=>by cases h
 | .mp _ _,_,v,h=>by cases h
theorem ZiY {S:Nat->Prop} {w:World} {t:Ty} (r:t.flat=true):∀(l:List t.den) (xs:List Value) (f:List Nat),Zai (ZgF S w (.flat t)) l xs f<->xs=(l.map (Znu t)).flatten/\f=[]
 |[],xs,f=>KT
 |d::l,xs,f=>by
  constructor
  ·rintro⟨v1,v,f1,f2,rfl,rfl,⟨rfl,h⟩,H⟩
   obtain⟨rfl,rfl⟩:=(ZiY r l v f2).1 H;have h:=(Zl3 t r _ _).1 h;subst h;exact⟨rfl,rfl⟩
  ·rintro⟨rfl,rfl⟩
   exact⟨Znu t d,_,[],[],rfl,rfl,⟨rfl,(Zl3 t r _ _).2 rfl⟩,(ZiY r l _ _).2 ⟨rfl,rfl⟩⟩
theorem Zrg {α:Type} [Inhabited α] {enc:α->List Value} {k:Nat} (H:0<k) (l:∀x,(enc x).length=k):∀(s:List α) (t:Nat),t<s.length*k->((s.map enc).flatten)[t]?=some ((enc s[t/k]!)[t%k]!)
 |[],t,h=>by simp at h
 |d::s,t,h=>by
  rw[Kv,List.flatten_cons];by_cases r:t<k
  ·rw[Uy (by rw[l];exact r),Nat.div_eq_of_lt r,Nat.mod_eq_of_lt r]
   rw[Ua (by rw[l];exact r)];congr 1;show _=(enc d)[t]!;rw[getElem!_pos (enc d) t (by rw[l];exact r)]
  ·rw[UY (by rw[l];omega),l,Zrg H l s (t-k) (by rw[Uf,U4]at h;omega)]
   have e1:t/k=(t-k)/k+1:=by
    rw[Nat.div_eq,Uc ⟨H,by omega⟩]
   have f:t%k=(t-k)%k:=Nat.mod_eq_sub_mod (by omega);rw[e1,f];rfl
theorem Zwo {α:Type} {enc:α->List Value} {k:Nat} (l:∀x,(enc x).length=k) (s:List α):((s.map enc).flatten).length=s.length*k:=by
 induction s with
 |nil=>simp
 |cons d s i=>rw[Kv,List.flatten_cons,Uh,i,Uf,U4,l];omega
theorem Zpj {α:Type} [Inhabited α] {enc:α->List Value} {k:Nat} (l:∀x,(enc x).length=k) (d:Array α):(flatK enc k d).toList=(d.toList.map enc).flatten:=by
 have n:=Zwo l d.toList;have s:(flatK enc k d).toList.length=d.toList.length*k:=by rw[Ux,size_flatK];simp
 apply UI;intro t;by_cases r:t<d.toList.length*k
 ·have a:0<k:=by
   rcases KP k with h|h
   ·subst h;simp at r
   ·exact h
  rw[Zrg a l d.toList t r,Ua (by omega)];congr 1;have H:=get_flatK enc k d t (by simpa using r);rw[getElem!_pos _ t (by rw[size_flatK];simpa using r)]at H;rw[Array.getElem_toList,H];congr 2;have q:t/k<d.size:=(Nat.div_lt_iff_lt_mul a).2 (by simpa using r);rw[getElem!_pos d _ q,getElem!_pos d.toList _ (by simpa using q)];rfl
 ·rw[Uv (by omega),Uv (by omega)]
theorem ZsK {α:Type} {key:α->Int}:∀{a b:List α},a.Pairwise (λx y=>key x<key y)->b.Pairwise (λx y=>key x<key y)->(∀x,x∈a<->x∈b)->a=b
 |[],[],_,_,_=>rfl
 |[],y::b,_,_,h=>by have:=(h y).2 UK;cases this
 |x::a,[],_,_,h=>by have:=(h x).1 UK;cases this
 |x::a,y::b,m,H,h=>by
  obtain⟨a1,A⟩:=KS.1 m;obtain⟨b1,N⟩:=KS.1 H;have E:x=y:=by
   rcases Us.1 ((h x).1 UK)with e|q
   ·exact e
   ·rcases Us.1 ((h y).2 UK)with e|Q
    ·exact e.symm
    ·have:=a1 y Q
     have:=b1 x q;omega
  subst E;rw[ZsK A N λz=>?_];constructor
  ·intro S
   rcases Us.1 ((h z).1 (UP _ S))with e|q
   ·have:=a1 z S;rw[e]at this;omega
   ·exact q
  ·intro S
   rcases Us.1 ((h z).2 (UP _ S))with e|q
   ·have:=b1 z S;rw[e]at this;omega
   ·exact q
noncomputable def ZwI {α:Type} (key:α->Int) (l:List α):Option (List α) :=
 open Classical in if h:∃r:List α,r.Perm l/\r.Pairwise (λx y=>key x<key y)/\(l.length:Int)<4611686018427387904 then some (Classical.choose h)else none
theorem Zpp {α:Type} {key:α->Int} {l r:List α}:ZwI key l=some r<->r.Perm l/\r.Pairwise (λx y=>key x<key y)/\(l.length:Int)<4611686018427387904:=by
 unfold ZwI;constructor
 ·intro h
  split at h
  ·rename_i Z
   injection h with h
   have:=Kj Z;rw[h]at this;exact this
  ·cases h
 ·intro h
  have Z:∃r:List α,r.Perm l/\r.Pairwise (λx y=>key x<key y)/\(l.length:Int)<4611686018427387904:=⟨r,h⟩;rw[dif_pos Z];congr 1;have q:=Kj Z;exact ZsK q.2.1 h.2.1 λx=>by rw[q.1.mem_iff,h.1.mem_iff]
def ZvI (e:TypeId) (t:Ty) (key:t.den->Int) (c:FuncId):Ctr:=⟨[.back (.ol e (.flat t)),.dat (.fn c .unit)],[],λ(a:List t.den×Unit×Unit) K=>Zx a λl _=>YR (ZwI key l) λr=>K () (r,())⟩
theorem ZyD {α:Type} (key:α->Int) (x y:α):ltOf (λx y:α=>Lib.compareInt (key x) (key y)) x y=decide (key x<key y):=by
 unfold ltOf Lib.compareInt;by_cases d:key x<key y
 ·simp[d]
 ·by_cases f:key y<key x<;>simp[d,f]
theorem ZCD {α:Type} (key:α->Int):SWO (ltOf λx y:α=>Lib.compareInt (key x) (key y)) where
 irrefl x:=by rw[ZyD];simp
 trans x y z h1 h2:=by rw[ZyD]at *;simp at *;omega
 ntrans x y z h1 h2:=by rw[ZyD]at *;simp at *;omega
theorem Zxg {α:Type} [Inhabited α] {enc:α->List Value} {k:Nat} {w:World} {g o:Nat} {cur:Array Value} {c:TypeId} {n:Nat} {d:Array α} {os:Array Obj} (a:w.heap[g]?=some (.cells cur c (0,0))) :
  (sortWorldK enc k w g o n d os).heap[g]?=some (.cells (putCells id o (flatK enc k d) cur) c (0,0))/\(∀b,b<w.heap.size->b≠g->(sortWorldK enc k w g o n d os).heap[b]?=w.heap[b]?)/\w.heap.size<=(sortWorldK enc k w g o n d os).heap.size:=by
 have s:g<w.heap.size:=(U1.1 a).1;have Y:(putRowK enc k (Go.Sort.ahead w n) g o d).heap.size=w.heap.size:=by
  show((Go.Sort.ahead w n).heap.modify g _).size=_;rw[Array.size_modify];rfl
 have q:∀b,b<w.heap.size->(sortWorldK enc k w g o n d os).heap[b]?=(putRowK enc k (Go.Sort.ahead w n) g o d).heap[b]?:=λb H=>by
  show((putRowK enc k (Go.Sort.ahead w n) g o d).heap++os)[b]?=_;rw[Array.getElem?_append_left (by rw[Y];exact H)]
 refine⟨?_,λb H J=>?_,?_⟩
 ·rw[q g s]
  show((Go.Sort.ahead w n).heap.modify g _)[g]?=_;rw[Array.getElem?_modify,Uc rfl];show((w.heap)[g]?).map _=_;rw[a];rfl
 ·rw[q b H]
  show((Go.Sort.ahead w n).heap.modify g _)[b]?=_;rw[Array.getElem?_modify,Ue (λh=>J h.symm)];rfl
 ·show w.heap.size<=((putRowK enc k (Go.Sort.ahead w n) g o d).heap++os).size
  rw[Array.size_append,Y];exact Nat.le_add_right _ _
theorem ZoU {F:Array Value} {cur:Array Value} {o:Nat} (h:o+F.size<=cur.size):((putCells id o F cur).toList.drop o).take F.size=F.toList:=by
 apply UI;intro j;by_cases b:j<F.size
 ·rw[UB,Uc b,Km,Kh]
  unfold putCells;rw[Array.getElem?_mapIdx,Array.getElem?_eq_getElem (by omega),Kl,Uc ⟨by omega,by omega⟩,show o+j-o=j by omega,Kh,Array.getElem?_eq_getElem b,getElem!_pos F j b];rfl
 ·rw[Uv (by rw[Uo];omega),Uv (by rw[Ux];omega)]
theorem Zs3 {P:Program} {ρ:Go.Shelf.Ren} (L:Go.Proofs.SlLaysF0.n6 P ρ) (et:TypeId) (t:Ty) (Q:t.flat=true) (aE:∀w,(isAgg (ρ.t 24)).run P w=.ok true w) (zE:∀w,(Go.sizeOf (ρ.t 24)).run P w=.ok t.size w) (key:t.den->Int) (C:FuncId) (H:Zi4 P (ρ.f 6))
  (eg:∀args w,(callFunc C args).run P w=.ok (.enter C args) w)
  (T:∀(x y:t.den) (W:World),Calls P C #[.agg (Znu t x).toArray,.agg (Znu t y).toArray] W λe w'=>e=.returned (.int .i64 (Lib.compareInt (key x) (key y)))/\∃q d0,w'=grow (W.drewN q) d0):Za P (ρ.f 6) (ZvI et t key C):=by
 refine⟨H,λw S vs aa fp K hS hd a0 N hK=>?_⟩;obtain⟨(l:List t.den),(u:Unit),⟨⟩⟩:=aa;obtain⟨v,vr,f,fr,rfl,rfl,⟨z,F⟩,c,d6,f2,d2,rfl,rfl,⟨rfl,_,a6,U⟩,rfl,rfl⟩:=hd;have hc:=z.2 rfl;rw[hc]at F;obtain⟨v',xs,a4,e1,O,hr,ef⟩:=F;have e1:v=v':=by simpa using e1
 subst e1;have O:w.Jr 0 et t.size v l.length xs:=O;have hr:Zai (ZgF S w (.flat t)) l xs a4:=hr;obtain⟨a2,rfl⟩:=(ZiY Q _ _ _).1 hr;have a7:c=.func (.func C) #[] #[]:=by
  rw[a6 rfl]at U;obtain⟨ys,e,hy⟩:=U;have hy:ys=[]:=hy;subst hy;simpa using e
 subst a7;rw[Um,Um]at a0 N ⊢;obtain⟨r,hr,hK⟩:∃r,ZwI key l=some r/\K () (r,()):=hK;obtain⟨hp,E,d4⟩:=Zpp.1 hr;have done:∀(w':World),Keeps ⟨w,S,λb=>b∈f,[]⟩ w'->ZrW S w' (.back (.ol et (.flat t))) r v f->
   ∃v0 us rs a3 S' fr I,Ending.returned (Value.tuple #[])=.returned v0/\retv us v0/\K rs a3/\Keeps ⟨w,S,λb=>b∈f,[]⟩ w'/\(∀b,S b->S' b)/\
    (∀b,S' b->b<w'.heap.size/\(b<w.heap.size->S b\/b∈f))/\Zc0 S' w' [] rs us fr/\Zgo S' w' [.back (.ol et (.flat t)),.dat (.fn C .unit)] a3 [v,.func (.func C) #[] #[]] I/\
    (I++fr).Nodup/\∀g∈I++fr,¬S' g/\g<w'.heap.size/\(w.heap.size<=g\/g∈f):=by
  intro w' hk b8;refine⟨_,[],(),(r,()),S,[],f,rfl,rfl,hK,hk,λb h=>h,λb h=>⟨UD (hS b h) hk.size,λ_=>.inl h⟩,⟨rfl,rfl⟩,⟨v,_,f,[],rfl,by simp,b8,_,[],rfl,rfl⟩,?_,?_⟩
  ·rw[Um];exact a0
  ·intro g B
   rw[Um]at B;exact⟨(N g B).1,UD (N g B).2 hk.size,.inr B⟩
 by_cases hl:l=[]
 ·subst hl
  have b7:r=[]:=List.Perm.eq_nil hp;subst b7;have b5:∃a p,v=.slice a 0 p:=by
   rcases O.2 with⟨rfl,_⟩|⟨g,p,cur,o,rfl,_⟩
   ·exact⟨none,0,rfl⟩
   ·exact⟨_,_,rfl⟩
  obtain⟨a,p,rfl⟩:=b5;refine(Go.Proofs.AnyF.slices_SortFunc_none {L with} a p _ w).mono ?_
  rintro e' w' ⟨rfl,rfl⟩;exact done w' ⟨rfl,rfl,rfl,UE _,λ_ _ _=>rfl⟩ ⟨z,by rw[hc];exact⟨_,xs,[],rfl,O,(ZiY Q _ _ _).2 ⟨a2,rfl⟩,ef⟩⟩
 ·have hn:0<l.length:=List.length_pos_iff.2 hl
  rcases O.2 with⟨_,h0⟩|⟨g,p,cur,o,rfl,hb,B,G,Y,b9,d5⟩
  ·omega
  haveI:Inhabited t.den:=⟨l[0]'hn⟩
  have hF:(flatK (Znu t) t.size l.toArray).toList=xs:=by rw[Zpj (ZkD t Q),a2]
  have d3:(flatK (Znu t) t.size l.toArray).size=l.length*t.size:=by rw[size_flatK];simp
  have J:HoldsK (Znu t) t.size w g o l.toArray:=by
   intro j X;constructor
   ·have hx:xs[j]?=some ((flatK (Znu t) t.size l.toArray)[j]!):=by
     rw[<-hF,Kh,Array.getElem?_eq_getElem X,getElem!_pos _ j X]
    have:=O.Zgh rfl j _ hx;rw[Addr.add_lit]at this;exact this
   ·unfold World.frozen?
    simp[B]
  have a9:g<w.heap.size:=(U1.1 B).1;have H:=Go.Proofs.AnyQ.slices_SortFunc L t.size aE zE (Znu t) (ZkD t Q) (Zp4 t) (λx y=>Lib.compareInt (key x) (key y)) (ZCD key) C #[] g o p l.toArray w eg (λm os dk _ x y=>by simpa using T x y _) J a9 (by simp only[U6];omega);rw[show(l.toArray).size=l.length by simp]at H;refine H.mono ?_;rintro e' w' ⟨rfl,D,n,os,b6,hst,rfl⟩;obtain⟨p1,_,p3⟩:=b6;have p1:D.size=l.length:=by simpa using p1
  have Z:D.toList.Perm l:=by
   have e1:D.extract 0 l.length=D:=by rw[<-p1,Array.extract_size]
   have e2:l.toArray.extract 0 l.length=l.toArray:=by
    have:l.length=l.toArray.size:=by simp
    rw[this,Array.extract_size]
   rw[e1,e2]at p3;exact p3
  have b4:(r.map key).Nodup:=by
   refine List.pairwise_map.2 (E.imp λh=>?_);omega
  have b3:(D.toList.map key).Nodup:=((Z.trans hp.symm).map key).nodup_iff.2 b4;have M:D.toList.Pairwise (λx y=>key x<key y):=by
   rw[List.pairwise_iff_getElem];intro i j hi X V;rw[Ux]at hi X;have h1:=hst i j (UM _) V (by omega);rw[ZyD,getElem!_pos D i (by omega),getElem!_pos D j (by omega)]at h1;simp only[Kr]at h1;have h2:key D[i]≠key D[j]:=by
    have:=List.pairwise_iff_getElem.1 b3 i j (by simpa using hi) (by simpa using X) V;simpa using this
   simp only[Array.getElem_toList];omega
  have a1:D.toList=r:=ZsK M E λx=>by rw[Z.mem_iff,hp.mem_iff]
  have A:r.length=l.length:=by rw[<-a1,Ux,p1]
  obtain⟨b0,b1,b2⟩:=Zxg (enc:=Znu t) (k:=t.size) (o:=o) (n:=n) (d:=D) (os:=os) B;have R:(flatK (Znu t) t.size D).toList=(r.map (Znu t)).flatten:=by rw[Zpj (ZkD t Q),a1]
  have s:(flatK (Znu t) t.size D).size=l.length*t.size:=by rw[size_flatK,p1]
  have d1:l.length*t.size<=p*t.size:=U2 _ G;have a8:g∈f:=by rw[ef];simp[Yv]
  refine done _ ⟨rfl,rfl,rfl,b2,λb hb a5=>b1 b hb (λe=>a5 (by rw[e];exact a8))⟩ ⟨⟨λh=>(by cases h),λ_=>hc⟩,?_⟩;rw[hc];refine⟨_,(r.map (Znu t)).flatten,[],rfl,⟨?_,.inr ⟨g,p,_,o,by rw[A],hb,b0,by rw[A];exact G,Y,?_,?_⟩⟩,(ZiY Q _ _ _).2 ⟨rfl,rfl⟩,ef⟩
  ·rw[A,<-R,Ux,s]
  ·unfold putCells;rw[Array.size_mapIdx];exact b9
  ·rw[A,<-R,<-s]
   exact ZoU (by rw[s];omega)
end Go.Sx
