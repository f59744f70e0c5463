/-
  slices.Sort and slices.Compact at lists of numbers of one's own: by the kit's summaries.
-/
import Derived.Test.YtjkccpcebpeadaaGreatDoorE1
import Derived.Shelf.SortM.Plain
import Derived.Shelf.SortM.SortNone
import Derived.Shelf.SlicesE.Compact
namespace Go.Sx
set_option linter.unusedVariables false
set_option linter.unusedSimpArgs false
open Go.Sort
abbrev DpI:Dp:=.flat (.int .i64)
theorem Zjf {S:Nat->Prop} {w:World}:∀(l:List Int) (xs:List Value) (f:List Nat),Zai (ZgF S w DpI) l xs f<->xs=l.map (Value.int .i64)/\f=[]
 |[],_,_=>KT
 |d::l,xs,f=>by
  constructor
  ·rintro⟨v1,v,f1,f2,rfl,rfl,⟨rfl,h⟩,H⟩
   obtain⟨rfl,rfl⟩:=(Zjf l v f2).1 H;have h:v1=[.int .i64 d]:=h;subst h;exact⟨rfl,rfl⟩
  ·rintro⟨rfl,rfl⟩
   exact⟨[.int .i64 d],_,[],[],rfl,rfl,⟨rfl,rfl⟩,(Zjf l _ _).2 ⟨rfl,rfl⟩⟩
def srt (l:List Int):List Int:=l.mergeSort λx y=>decide (x<=y)
def ZpY (l:List Int):List Int:=Lib.compactUpTo l.toArray l.toArray.size
def ZAR (l:List Int):Option (List Int):=if(l.length:Int)<4611686018427387904 then some (srt l)else none
def Ztq (l:List Int):Option (List Int):=if 0<l.length then some (ZpY l)else none
def Zzr (c:TypeId):Ctr:=⟨[.back (.ol c DpI)],[],λ(a:List Int×Unit) K=>Zx a λl _=>YR (ZAR l) λr=>K () (r,())⟩
def ZvH (c:TypeId):Ctr:=⟨[.own (.ol c DpI)],[.own (.ol c DpI)],λ(a:List Int×Unit) K=>Zx a λl _=>YR (Ztq l) λr=>K (r,()) ()⟩
theorem Zn8 {w:World} {g o:Nat} {cur:Array Value} {c:TypeId} {n:Nat} {d:Array Int} {os:Array Obj} (a:w.heap[g]?=some (.cells cur c (0,0))) :
  (grow (putRow (Value.int .i64) (Go.Sort.ahead w n) g o d) os).heap[g]?=some (.cells (putCells (Value.int .i64) o d cur) c (0,0))/\
  (∀b,b<w.heap.size->b≠g->(grow (putRow (Value.int .i64) (Go.Sort.ahead w n) g o d) os).heap[b]?=w.heap[b]?)/\
  w.heap.size<=(grow (putRow (Value.int .i64) (Go.Sort.ahead w n) g o d) os).heap.size:=by
 have s:g<w.heap.size:=(U1.1 a).1;have Y:(putRow (Value.int .i64) (Go.Sort.ahead w n) g o d).heap.size=w.heap.size:=by
  show((Go.Sort.ahead w n).heap.modify g _).size=_;rw[Array.size_modify];rfl
 have q:∀b,b<w.heap.size->(grow (putRow (Value.int .i64) (Go.Sort.ahead w n) g o d) os).heap[b]?=(putRow (Value.int .i64) (Go.Sort.ahead w n) g o d).heap[b]?:=λb H=>by
  show((putRow (Value.int .i64) (Go.Sort.ahead w n) g o d).heap++os)[b]?=_;rw[Array.getElem?_append_left (by rw[Y];exact H)]
 refine⟨?_,λb H J=>?_,?_⟩
 ·rw[q g s]
  show((Go.Sort.ahead w n).heap.modify g _)[g]?=_;rw[Array.getElem?_modify,Uc rfl];show((w.heap)[g]?).map _=_;rw[a];rfl
 ·rw[q b H]
  show((Go.Sort.ahead w n).heap.modify g _)[b]?=_;rw[Array.getElem?_modify,Ue (λh=>J h.symm)];rfl
 ·show w.heap.size<=((putRow (Value.int .i64) (Go.Sort.ahead w n) g o d).heap++os).size
  rw[Array.size_append,Y];exact Nat.le_add_right _ _
theorem ZjG {F:List Int} {cur:Array Value} {o m:Nat} (h:o+F.length<=cur.size) (Q:m<=F.length):((putCells (Value.int .i64) o F.toArray cur).toList.drop o).take m=(F.take m).map (Value.int .i64):=by
 apply UI;intro j;by_cases b:j<m
 ·rw[UB,Uc b,Km,Kh]
  unfold putCells;rw[Array.getElem?_mapIdx,Array.getElem?_eq_getElem (by omega),Kl,Uc ⟨by omega,by simp only[U6];omega⟩,show o+j-o=j by omega,UL,UB,Uc b,Ua (by omega)];simp only[Kl];rw[getElem!_pos _ j (by simp only[U6];omega)];rfl
 ·rw[Uv (by rw[Uo];omega),Uv (by rw[U5,Uo];omega)]
theorem ZjF {F:Array Int} {cur:Array Value} {o:Nat}:(putCells (Value.int .i64) o F cur).size=cur.size:=by
 unfold putCells;rw[Array.size_mapIdx]
theorem ownsInts {w:World} {t:TypeId} {l:List Int} {g c o:Nat} {cur:Array Value} {xs:List Value} (C:xs=l.map (Value.int .i64)) (h:w.Jr 0 t 1 (.slice (some ⟨g,o,none⟩) l.length c) l.length xs):Holds (Value.int .i64) w g o l.toArray:=by
 intro j b;simp only[U6]at b;have Z:xs[j]?=some (Value.int .i64 (l.toArray)[j]!):=by
  rw[C,UL,Ua b,getElem!_pos _ j (by simpa using b)];rfl
 constructor
 ·have:=h.Zgh rfl j _ Z
  rw[Addr.add_lit]at this;exact this
 ·rcases h.2 with⟨e,_⟩|⟨G,a,d,o',e,m,H,_⟩
  ·cases e
  ·injection e with e1 f i
   injection e1 with e1
   injection e1 with e1 E k
   subst e1;unfold World.frozen?;simp[H]
theorem Zvb {P:Program} {ρ:Go.Shelf.Ren} (L:Go.Proofs.SlLaysM.n5 P ρ) (t:TypeId) (H:Zi4 P (ρ.f 5)):Za P (ρ.f 5) (Zzr t):=by
 refine⟨H,λw S vs Z fp K hS hd q i A=>?_⟩;obtain⟨(l:List Int),⟨⟩⟩:=Z;obtain⟨v,vr,f,fr,rfl,rfl,⟨m,p⟩,rfl,rfl⟩:=hd;have u:=m.2 rfl;rw[u]at p;obtain⟨v',xs,z,e1,k,E,y⟩:=p;have e1:v=v':=by simpa using e1
 subst e1;have k:w.Jr 0 t 1 v l.length xs:=k;have E:Zai (ZgF S w DpI) l xs z:=E;obtain⟨U,rfl⟩:=(Zjf _ _ _).1 E;rw[Um]at q i ⊢;obtain⟨r,E,A⟩:∃r,ZAR l=some r/\K () (r,()):=A;have T:(l.length:Int)<4611686018427387904:=by
  unfold ZAR at E;split at E
  ·assumption
  ·cases E
 unfold ZAR at E;rw[Uc T]at E;injection E with E
 subst E;have done:∀(w':World),Keeps ⟨w,S,λb=>b∈f,[]⟩ w'->ZrW S w' (.back (.ol t DpI)) (srt l) v f->
   ∃v0 X W I S' fr F,Ending.returned (Value.tuple #[])=.returned v0/\retv X v0/\K W I/\Keeps ⟨w,S,λb=>b∈f,[]⟩ w'/\(∀b,S b->S' b)/\
    (∀b,S' b->b<w'.heap.size/\(b<w.heap.size->S b\/b∈f))/\Zc0 S' w' [] W X fr/\Zgo S' w' [.back (.ol t DpI)] I [v] F/\
    (F++fr).Nodup/\∀g∈F++fr,¬S' g/\g<w'.heap.size/\(w.heap.size<=g\/g∈f):=by
  intro w' M R;refine⟨_,[],(),(srt l,()),S,[],f,rfl,rfl,A,M,λb h=>h,λb h=>⟨UD (hS b h) M.size,λ_=>.inl h⟩,⟨rfl,rfl⟩,⟨v,[],f,[],rfl,by simp,R,rfl⟩,?_,?_⟩
  ·rw[Um];exact q
  ·intro g j
   rw[Um]at j;exact⟨(i g j).1,UD (i g j).2 M.size,.inr j⟩
 by_cases V:l=[]
 ·subst V
  have O:∃a c,v=.slice a 0 c:=by
   rcases k.2 with⟨rfl,_⟩|⟨g,c,cur,o,rfl,_⟩
   ·exact⟨none,0,rfl⟩
   ·exact⟨_,_,rfl⟩
  obtain⟨a,c,rfl⟩:=O;refine(Go.Proofs.AnyM.slices_Sort_int_none L a c w).mono ?_;rintro e' w' ⟨rfl,rfl⟩;have Q:srt []=[]:=by simp[srt]
  exact done w' ⟨rfl,rfl,rfl,UE _,λ_ _ _=>rfl⟩ ⟨m,by rw[u,Q];exact⟨_,xs,[],rfl,k,E,y⟩⟩
 ·have hn:0<l.length:=List.length_pos_iff.2 V
  have N:=k;rcases k.2 with⟨_,h0⟩|⟨g,c,cur,o,rfl,B,j,G,x,Y,a0⟩
  ·omega
  have J:g<w.heap.size:=(U1.1 j).1;have H:=Go.Proofs.AnyM.slices_Sort_int L g o c l w (ownsInts (cur:=cur) U N) J (by omega);refine H.mono ?_;rintro e' w' ⟨rfl,n,os,rfl⟩;obtain⟨h1,h2,h3⟩:=Zn8 (n:=n) (o:=o) (d:=(srt l).toArray) (os:=os) j;have s:(srt l).length=l.length:=List.length_mergeSort _;have D:g∈f:=by rw[y];simp[Yv]
  refine done _ ⟨rfl,rfl,rfl,h3,λb B C=>h2 b B (λe=>C (by rw[e];exact D))⟩ ⟨⟨λh=>(by cases h),λ_=>u⟩,?_⟩;rw[u];refine⟨_,(srt l).map (Value.int .i64),[],rfl,⟨by show((srt l).map (Value.int .i64)).length=_;rw[U5];exact(Nat.mul_one _).symm,.inr ⟨g,c,_,o,by rw[s],B,h1,by rw[s];exact G,x,by rw[ZjF];exact Y,?_⟩⟩,(Zjf _ _ _).2 ⟨rfl,rfl⟩,y⟩;have hq:o+(srt l).length<=cur.size:=by rw[s];have:c*1=c:=Nat.mul_one _;have Y:o+c*1<=cur.size:=Y;omega
  show((putCells (Value.int .i64) o (srt l).toArray cur).toList.drop o).take ((srt l).length*1)=_;rw[Nat.mul_one,ZjG hq (UE _),Ur]
theorem Zss (l:List Int):(ZpY l).length<=l.length:=by
 unfold ZpY Lib.compactUpTo;rw[U5];refine Kg (List.length_filter_le _ _) ?_;simp
theorem Zya {P:Program} {ρ:Go.Shelf.Ren} (L:Go.Proofs.SlLaysE.n43 P ρ) (O:TypeId) (V:∀w,(zeroValue (ρ.t 23)).run P w=.ok (.int .i64 0) w) (H:Zi4 P (ρ.f 43)):Za P (ρ.f 43) (ZvH O):=by
 refine⟨H,λw S vs Z fp K X hd I j u=>?_⟩;obtain⟨(l:List Int),⟨⟩⟩:=Z;obtain⟨v,vr,f,fr,rfl,rfl,⟨m,p⟩,rfl,rfl⟩:=hd;have hc:=m.2 rfl;rw[hc]at p;obtain⟨v',xs,F,e1,q,E,M⟩:=p;have e1:v=v':=by simpa using e1
 subst e1;have q:w.Jr 0 O 1 v l.length xs:=q;have E:Zai (ZgF S w DpI) l xs F:=E;obtain⟨J,rfl⟩:=(Zjf _ _ _).1 E;rw[Um]at I j ⊢;obtain⟨r,E,u⟩:∃r,Ztq l=some r/\K (r,()) ():=u;have s:0<l.length:=by
  unfold Ztq at E;split at E
  ·assumption
  ·cases E
 unfold Ztq at E;rw[Uc s]at E;injection E with E
 subst E;have N:=q;rcases q.2 with⟨_,h0⟩|⟨g,c,cur,o,rfl,y,U,G,x,Y,a1⟩
 ·omega
 have B:g<w.heap.size:=(U1.1 U).1;have H:=Go.Proofs.AnyE.slices_Compact L (Value.int .i64) (λ_=>rfl) (Go.Proofs.EqlAt.intD P _ _) (Go.Proofs.NeqAt.intD P _ _) 0 V g o c l.toArray w (ownsInts (cur:=cur) J N) (by simp only[U6];unfold maxLen at x;omega) (by simpa using G);refine H.mono ?_;rintro e' w' ⟨rfl,n,rfl⟩;obtain⟨R,T,k⟩:=Zn8 (n:=n) (o:=o) (d:=(Lib.compactUpTo l.toArray l.toArray.size++List.replicate (l.toArray.size-(Lib.compactUpTo l.toArray l.toArray.size).length) 0).toArray) (os:=#[]) U;have A:∀W:World,grow W #[]=W:=λW=>by unfold grow;simp
 rw[A]at R T k;have a:(ZpY l).length<=l.length:=Zss l;have D:g∈f:=by rw[M];simp[Yv]
 have a0:f=[g]:=by rw[M];simp[Yv]
 refine⟨_,[.slice (some ⟨g,o,none⟩) (ZpY l).length c],(ZpY l,()),(),S,[g],[],rfl,rfl,u,⟨rfl,rfl,rfl,k,λb y C=>T b y (λe=>C (by rw[e];exact D))⟩,λb h=>h,λb h=>⟨UD (X b h) k,λ_=>.inl h⟩,⟨_,[],[g],[],rfl,rfl,⟨⟨λh=>(by cases h),λ_=>rfl⟩,?_⟩,rfl,rfl⟩,⟨_,[],rfl,rfl⟩,by simp,?_⟩
 ·refine⟨_,(ZpY l).map (Value.int .i64),[],rfl,⟨by show((ZpY l).map (Value.int .i64)).length=_;rw[U5];exact(Nat.mul_one _).symm,.inr ⟨g,c,_,o,rfl,y,R,Kg a G,x,by rw[ZjF];exact Y,?_⟩⟩,(Zjf _ _ _).2 ⟨rfl,rfl⟩,by simp[Yv]⟩
  have Y:o+c*1<=cur.size:=Y;have i:(Lib.compactUpTo l.toArray l.toArray.size++List.replicate (l.toArray.size-(Lib.compactUpTo l.toArray l.toArray.size).length) (0:Int)).length=l.length:=by
   have a:(Lib.compactUpTo l.toArray l.toArray.size).length<=l.length:=a;rw[Uh,UT,U6]at *;omega
  show((putCells (Value.int .i64) o _ cur).toList.drop o).take ((ZpY l).length*1)=_;rw[Nat.mul_one,ZjG (by rw[i];omega) (by rw[i];exact a)];congr 1;exact List.take_left' rfl
 ·intro Q z
  have:Q=g:=by simpa using z
  subst this;exact⟨(j Q D).1,UD B k,.inr D⟩
end Go.Sx
