/-
  slices.Sort and slices.Compact at lists of numbers of one's own: by the kit's summaries.
-/
import Derived.Test.YtoijdogpgpbddaaGreatDoorE1
import Derived.Shelf.SortM.Plain
import Derived.Shelf.SortM.SortNone
import Derived.Shelf.SlicesE.Compact
namespace Go.Sx
set_option linter.unusedVariables false
set_option linter.unusedSimpArgs false
open Go.Sort
abbrev DpI:Dp:=.flat (.int .i64)
theorem Zln {S:Nat->Prop} {w:World}:∀(l:List Int) (xs:List Value) (f:List Nat),Zcp (Zi4 S w DpI) l xs f<->xs=l.map (Value.int .i64)/\f=[]
 |[],_,_=>Iff.rfl
 |d::l,xs,f=>by
  constructor
  ·rintro⟨v1,v,a,F,rfl,rfl,⟨rfl,h⟩,H⟩
   obtain⟨rfl,rfl⟩:=(Zln l v F).1 H;have h:v1=[.int .i64 d]:=h;subst h;exact⟨rfl,rfl⟩
  ·rintro⟨rfl,rfl⟩
   exact⟨[.int .i64 d],_,[],[],rfl,rfl,⟨rfl,rfl⟩,(Zln l _ _).2 ⟨rfl,rfl⟩⟩
def srt (l:List Int):List Int:=l.mergeSort λx y=>decide (x<=y)
def Znt (l:List Int):List Int:=Lib.compactUpTo l.toArray l.toArray.size
def ZyE (l:List Int):Option (List Int):=if(l.length:Int)<4611686018427387904 then some (srt l)else none
def Zkj (l:List Int):Option (List Int):=if 0<l.length then some (Znt l)else none
def ZDN (g:TypeId):Ctr:=⟨[.back (.ol g DpI)],[],λ(a:List Int×Unit) K=>Zr a λl _=>Yk (ZyE l) λr=>K () (r,())⟩
def ZtP (g:TypeId):Ctr:=⟨[.own (.ol g DpI)],[.own (.ol g DpI)],λ(a:List Int×Unit) K=>Zr a λl _=>Yk (Zkj l) λr=>K (r,()) ()⟩
theorem Zqn {w:World} {g o:Nat} {cur:Array Value} {e:TypeId} {n:Nat} {d:Array Int} {os:Array Obj} (a:w.heap[g]?=some (.cells cur e (0,0))) :
  (grow (putRow (Value.int .i64) (Go.Sort.ahead w n) g o d) os).heap[g]?=some (.cells (putCells (Value.int .i64) o d cur) e (0,0))/\
  (∀b,b<w.heap.size->b≠g->(grow (putRow (Value.int .i64) (Go.Sort.ahead w n) g o d) os).heap[b]?=w.heap[b]?)/\
  w.heap.size<=(grow (putRow (Value.int .i64) (Go.Sort.ahead w n) g o d) os).heap.size:=by
 have s:g<w.heap.size:=(U9.1 a).1;have A:(putRow (Value.int .i64) (Go.Sort.ahead w n) g o d).heap.size=w.heap.size:=by
  show((Go.Sort.ahead w n).heap.modify g _).size=_;rw[Array.size_modify];rfl
 have q:∀b,b<w.heap.size->(grow (putRow (Value.int .i64) (Go.Sort.ahead w n) g o d) os).heap[b]?=(putRow (Value.int .i64) (Go.Sort.ahead w n) g o d).heap[b]?:=λb H=>by
  show((putRow (Value.int .i64) (Go.Sort.ahead w n) g o d).heap++os)[b]?=_;rw[Array.getElem?_append_left (by rw[A];exact H)]
 refine⟨?_,λb H K=>?_,?_⟩
 ·rw[q g s]
  show((Go.Sort.ahead w n).heap.modify g _)[g]?=_;rw[Array.getElem?_modify,Uc rfl];show((w.heap)[g]?).map _=_;rw[a];rfl
 ·rw[q b H]
  show((Go.Sort.ahead w n).heap.modify g _)[b]?=_;rw[Array.getElem?_modify,Ue (λh=>K h.symm)];rfl
 ·show w.heap.size<=((putRow (Value.int .i64) (Go.Sort.ahead w n) g o d).heap++os).size
  rw[Array.size_append,A];exact Nat.le_add_right _ _
theorem ZlU {F:List Int} {cur:Array Value} {o m:Nat} (h:o+F.length<=cur.size) (R:m<=F.length):((putCells (Value.int .i64) o F.toArray cur).toList.drop o).take m=(F.take m).map (Value.int .i64):=by
 apply Uy;intro j;by_cases b:j<m
 ·rw[UB,Uc b,Ky,KP]
  unfold putCells;rw[Array.getElem?_mapIdx,Array.getElem?_eq_getElem (by omega),UV,Uc ⟨by omega,by simp only[Kk];omega⟩,show o+j-o=j by omega,UL,UB,Uc b,Ub (by omega)];simp only[UV];rw[getElem!_pos _ j (by simp only[Kk];omega)];rfl
 ·rw[UA (by rw[Uk];omega),UA (by rw[UW,Uk];omega)]
theorem ZlT {F:Array Int} {cur:Array Value} {o:Nat}:(putCells (Value.int .i64) o F cur).size=cur.size:=by
 unfold putCells;rw[Array.size_mapIdx]
theorem ownsInts {w:World} {t:TypeId} {l:List Int} {g c o:Nat} {cur:Array Value} {xs:List Value} (F:xs=l.map (Value.int .i64)) (x:w.Zaf 0 t 1 (.slice (some ⟨g,o,none⟩) l.length c) l.length xs):Holds (Value.int .i64) w g o l.toArray:=by
 intro j b;simp only[Kk]at b;have H:xs[j]?=some (Value.int .i64 (l.toArray)[j]!):=by
  rw[F,UL,Ub b,getElem!_pos _ j (by simpa using b)];rfl
 constructor
 ·have:=x.ZiY rfl j _ H
  rw[Addr.add_lit]at this;exact this
 ·rcases x.2 with⟨e,_⟩|⟨G,C,a,o',e,m,h,_⟩
  ·cases e
  ·injection e with E i k
   injection E with E
   injection E with E f d
   subst E;unfold World.frozen?;simp[h]
theorem Zyp {P:Program} {ρ:Go.Shelf.Ren} (L:Go.Proofs.SlLaysM.n5 P ρ) (E:TypeId) (H:Zmq P (ρ.f 5)):Zc P (ρ.f 5) (ZDN E):=by
 refine⟨H,λw S vs aa fp K hS hd t j C=>?_⟩;obtain⟨(l:List Int),⟨⟩⟩:=aa;obtain⟨v,vr,f,fr,rfl,rfl,⟨m,p⟩,rfl,rfl⟩:=hd;have u:=m.2 rfl;rw[u]at p;obtain⟨v',xs,B,y,x,F,z⟩:=p;have y:v=v':=by simpa using y
 subst y;have x:w.Zaf 0 E 1 v l.length xs:=x;have F:Zcp (Zi4 S w DpI) l xs B:=F;obtain⟨W,rfl⟩:=(Zln _ _ _).1 F;rw[Un]at t j ⊢;obtain⟨r,F,C⟩:∃r,ZyE l=some r/\K () (r,()):=C;have V:(l.length:Int)<4611686018427387904:=by
  unfold ZyE at F;split at F
  ·assumption
  ·cases F
 unfold ZyE at F;rw[Uc V]at F;injection F with F
 subst F;have done:∀(w':World),Keeps ⟨w,S,λb=>b∈f,[]⟩ w'->ZvY S w' (.back (.ol E DpI)) (srt l) v f->
   ∃v0 Z Y I S' fr i,Ending.returned (Value.tuple #[])=.returned v0/\retv Z v0/\K Y I/\Keeps ⟨w,S,λb=>b∈f,[]⟩ w'/\(∀b,S b->S' b)/\
    (∀b,S' b->b<w'.heap.size/\(b<w.heap.size->S b\/b∈f))/\Zfs S' w' [] Y Z fr/\Zig S' w' [.back (.ol E DpI)] I [v] i/\
    (i++fr).Nodup/\∀g∈i++fr,¬S' g/\g<w'.heap.size/\(w.heap.size<=g\/g∈f):=by
  intro w' O U;refine⟨_,[],(),(srt l,()),S,[],f,rfl,rfl,C,O,λb h=>h,λb h=>⟨UP (hS b h) O.size,λ_=>.inl h⟩,⟨rfl,rfl⟩,⟨v,[],f,[],rfl,by simp,U,rfl⟩,?_,?_⟩
  ·rw[Un];exact t
  ·intro g k
   rw[Un]at k;exact⟨(j g k).1,UP (j g k).2 O.size,.inr k⟩
 by_cases X:l=[]
 ·subst X
  have R:∃a c,v=.slice a 0 c:=by
   rcases x.2 with⟨rfl,_⟩|⟨g,c,cur,o,rfl,_⟩
   ·exact⟨none,0,rfl⟩
   ·exact⟨_,_,rfl⟩
  obtain⟨a,c,rfl⟩:=R;refine(Go.Proofs.AnyM.slices_Sort_int_none L a c w).mono ?_;rintro e' w' ⟨rfl,rfl⟩;have T:srt []=[]:=by simp[srt]
  exact done w' ⟨rfl,rfl,rfl,UO _,λ_ _ _=>rfl⟩ ⟨m,by rw[u,T];exact⟨_,xs,[],rfl,x,F,z⟩⟩
 ·have hn:0<l.length:=List.length_pos_iff.2 X
  have Q:=x;rcases x.2 with⟨_,h0⟩|⟨g,c,cur,o,rfl,D,k,G,q,A,a0⟩
  ·omega
  have N:g<w.heap.size:=(U9.1 k).1;have H:=Go.Proofs.AnyM.slices_Sort_int L g o c l w (ownsInts (cur:=cur) W Q) N (by omega);refine H.mono ?_;rintro e' w' ⟨rfl,n,os,rfl⟩;obtain⟨h1,h2,h3⟩:=Zqn (n:=n) (o:=o) (d:=(srt l).toArray) (os:=os) k;have s:(srt l).length=l.length:=List.length_mergeSort _;have M:g∈f:=by rw[z];simp[Y4]
  refine done _ ⟨rfl,rfl,rfl,h3,λb D J=>h2 b D (λe=>J (by rw[e];exact M))⟩ ⟨⟨λh=>(by cases h),λ_=>u⟩,?_⟩;rw[u];refine⟨_,(srt l).map (Value.int .i64),[],rfl,⟨by show((srt l).map (Value.int .i64)).length=_;rw[UW];exact(Nat.mul_one _).symm,.inr ⟨g,c,_,o,by rw[s],D,h1,by rw[s];exact G,q,by rw[ZlT];exact A,?_⟩⟩,(Zln _ _ _).2 ⟨rfl,rfl⟩,z⟩;have hq:o+(srt l).length<=cur.size:=by rw[s];have:c*1=c:=Nat.mul_one _;have A:o+c*1<=cur.size:=A;omega
  show((putCells (Value.int .i64) o (srt l).toArray cur).toList.drop o).take ((srt l).length*1)=_;rw[Nat.mul_one,ZlU hq (UO _),Uq]
theorem Zpw (l:List Int):(Znt l).length<=l.length:=by
 unfold Znt Lib.compactUpTo;rw[UW];refine Ko (List.length_filter_le _ _) ?_;simp
theorem Zsj {P:Program} {ρ:Go.Shelf.Ren} (L:Go.Proofs.SlLaysE.n43 P ρ) (R:TypeId) (V:∀w,(zeroValue (ρ.t 23)).run P w=.ok (.int .i64 0) w) (H:Zmq P (ρ.f 43)):Zc P (ρ.f 43) (ZtP R):=by
 refine⟨H,λw S vs Z fp K hS hd D j u=>?_⟩;obtain⟨(l:List Int),⟨⟩⟩:=Z;obtain⟨v,vr,f,fr,rfl,rfl,⟨m,p⟩,rfl,rfl⟩:=hd;have hc:=m.2 rfl;rw[hc]at p;obtain⟨v',xs,s,E,x,F,O⟩:=p;have E:v=v':=by simpa using E
 subst E;have x:w.Zaf 0 R 1 v l.length xs:=x;have F:Zcp (Zi4 S w DpI) l xs s:=F;obtain⟨N,rfl⟩:=(Zln _ _ _).1 F;rw[Un]at D j ⊢;obtain⟨r,F,u⟩:∃r,Zkj l=some r/\K (r,()) ():=u;have I:0<l.length:=by
  unfold Zkj at F;split at F
  ·assumption
  ·cases F
 unfold Zkj at F;rw[Uc I]at F;injection F with F
 subst F;have Q:=x;rcases x.2 with⟨_,h0⟩|⟨g,c,cur,o,rfl,y,Y,G,q,A,a1⟩
 ·omega
 have C:g<w.heap.size:=(U9.1 Y).1;have H:=Go.Proofs.AnyE.slices_Compact L (Value.int .i64) (λ_=>rfl) (Go.Proofs.EqlAt.intD P _ _) (Go.Proofs.NeqAt.intD P _ _) 0 V g o c l.toArray w (ownsInts (cur:=cur) N Q) (by simp only[Kk];unfold maxLen at q;omega) (by simpa using G);refine H.mono ?_;rintro e' w' ⟨rfl,n,rfl⟩;obtain⟨U,X,k⟩:=Zqn (n:=n) (o:=o) (d:=(Lib.compactUpTo l.toArray l.toArray.size++List.replicate (l.toArray.size-(Lib.compactUpTo l.toArray l.toArray.size).length) 0).toArray) (os:=#[]) Y;have B:∀W:World,grow W #[]=W:=λW=>by unfold grow;simp
 rw[B]at U X k;have a:(Znt l).length<=l.length:=Zpw l;have M:g∈f:=by rw[O];simp[Y4]
 have a0:f=[g]:=by rw[O];simp[Y4]
 refine⟨_,[.slice (some ⟨g,o,none⟩) (Znt l).length c],(Znt l,()),(),S,[g],[],rfl,rfl,u,⟨rfl,rfl,rfl,k,λb y J=>X b y (λe=>J (by rw[e];exact M))⟩,λb h=>h,λb h=>⟨UP (hS b h) k,λ_=>.inl h⟩,⟨_,[],[g],[],rfl,rfl,⟨⟨λh=>(by cases h),λ_=>rfl⟩,?_⟩,rfl,rfl⟩,⟨_,[],rfl,rfl⟩,by simp,?_⟩
 ·refine⟨_,(Znt l).map (Value.int .i64),[],rfl,⟨by show((Znt l).map (Value.int .i64)).length=_;rw[UW];exact(Nat.mul_one _).symm,.inr ⟨g,c,_,o,rfl,y,U,Ko a G,q,by rw[ZlT];exact A,?_⟩⟩,(Zln _ _ _).2 ⟨rfl,rfl⟩,by simp[Y4]⟩
  have A:o+c*1<=cur.size:=A;have i:(Lib.compactUpTo l.toArray l.toArray.size++List.replicate (l.toArray.size-(Lib.compactUpTo l.toArray l.toArray.size).length) (0:Int)).length=l.length:=by
   have a:(Lib.compactUpTo l.toArray l.toArray.size).length<=l.length:=a;rw[Ug,UQ,Kk]at *;omega
  show((putCells (Value.int .i64) o _ cur).toList.drop o).take ((Znt l).length*1)=_;rw[Nat.mul_one,ZlU (by rw[i];omega) (by rw[i];exact a)];congr 1;exact List.take_left' rfl
 ·intro T z
  have:T=g:=by simpa using z
  subst this;exact⟨(j T M).1,UP C k,.inr M⟩
end Go.Sx
