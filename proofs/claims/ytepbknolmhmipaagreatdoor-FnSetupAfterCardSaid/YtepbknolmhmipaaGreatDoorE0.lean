/-
  Lists of one's own that begin within their block: what the kit says of lists that begin at a block's head, said anew.
-/
import Derived.WalkKit
import Derived.Great.BuildSlice
import Derived.Laws.StructEq
import Derived.Laws.MakeOwn
import Derived.Laws.OwnMore
namespace Go
set_option linter.unusedVariables false
set_option linter.unusedSimpArgs false
def World.Vx (w:World) (base:Nat) (e:TypeId) (size:Nat) (v:Value) (n:Nat) (xs:List Value):Prop :=
  xs.length=n*size/\
  ((v=.slice none 0 0/\n=0)\/
   ∃ g cap cur o,v=.slice (some ⟨g,o,none⟩) n cap/\base<=g/\w.heap[g]?=some (.cells cur e (0,0))/\n<=cap/\cap<=maxLen/\o+cap*size<=cur.size/\(cur.toList.drop o).take (n*size)=xs)
section
variable {w:World} {base:Nat} {e:TypeId} {size:Nat} {v:Value} {n:Nat} {xs:List Value}
theorem World.ZgG (w:World) (base:Nat) (e:TypeId) (size:Nat):w.Vx base e size (.slice none 0 0) 0 []:=⟨by simp,.inl ⟨rfl,rfl⟩⟩
theorem World.Vx.lt (h:w.Vx base e size v n xs):∀ k,v.ownBlock=some k->base<=k/\k<w.heap.size:=by
 intro k hk;rcases h.2 with ⟨rfl,_⟩ | ⟨g,cap,cur,o,rfl,hb,hg,_⟩
 ·simp[Value.ownBlock] at hk
 ·simp[Value.ownBlock] at hk
  grind
theorem World.Vx.kept {w':World} {row:Option Nat} (h:w.Vx base e size v n xs) (hg:w.grownBy w' row) (hne:v.ownBlock=none\/v.ownBlock≠row):w'.Vx base e size v n xs:=by
 refine ⟨h.1,?_⟩;rcases h.2 with hn | ⟨g,cap,cur,o,rfl,hb,hgg,rest⟩
 ·exact .inl hn
 ·refine .inr ⟨g,cap,cur,o,rfl,hb,?_,rest⟩
  rw[hg.block g (Array.getElem?_eq_some_iff.1 hgg).1 (by simpa[Value.ownBlock] using hne)];exact hgg
theorem World.Vx.ZeV (h:w.Vx base e size v n xs) {g o l c:Nat} (hg:v=.slice (some ⟨g,o,none⟩) l c):∀ j u,xs[j]?=some u->w.cell? ((⟨g,o,none⟩:Addr).add j)=some u:=by
 intro j u hu;rcases h.2 with ⟨rfl,_⟩ | ⟨g',cap,cur,o',rfl,_,hgg,_,_,_,htake⟩
 ·cases hg
 ·injection hg with e1 e2 e3
  injection e1 with e1
  injection e1 with e1 e4
  subst e1;subst e4;rw[Addr.add_lit,cell_of_row w g' (o'+j) cur e (0,0) hgg];grind
end
section
variable {P:Program} (w:World)
theorem Zen (t ty e:TypeId) (i:TypeInfo) (ht:P.underlying t=some (.slice e)) (hi:P.info? e=some i)
  (g o sLen sCap:Nat) (cur:Array Value) (hg:w.heap[g]?=some (.cells cur e (0,0)))
  (a:Addr) (m c:Nat) (news:List Value) (hl:news.length=m*i.size) (hnews:∀ j u,news[j]?=some u->w.cell? (a.add j)=some u) (h1:∀ u∈news,u.oneCell'=true)
  (hroom:sLen+m<=sCap) (hfit:o+sLen*i.size+news.length<=cur.size) :
  (Builtin.append_ #[t,t] ty #[.slice (some ⟨g,o,none⟩) sLen sCap,.slice (some a) m c]).run P w =
   .ok (.slice (some ⟨g,o,none⟩) (sLen+m) sCap) (w.setRow g (cur.toList.take (o+sLen*i.size)++news++cur.toList.drop (o+sLen*i.size+news.length)).toArray):=by
 have hf:=run_firstCells_some (P:=P) w i.size m a m c news hl hnews;have hst:=run_storeCells_at P g (o+sLen*i.size) e news 0 cur w hg (by simpa using hfit) h1;simp only[Nat.add_zero] at hst;simp[Builtin.append_,run_underlying ht,sizeOf,typeInfo,hi,Builtin.lenOf,hroom,hf,Addr.add_lit,hst]
theorem Zb0 (base:Nat) (t ty e:TypeId) (i:TypeInfo) (size:Nat) (ht:P.underlying t=some (.slice e)) (hi:P.info? e=some i)
  (v:Value) (n:Nat) (xs:List Value) (hown:w.Vx base e size v n xs) :
  (Builtin.append_ #[t,t] ty #[v,.slice none 0 0]).run P w=.ok v w:=by
 rcases hown.2 with ⟨rfl,rfl⟩ | ⟨g,cap,cur,o,rfl,_,_,hnc,_⟩
 ·simp[Builtin.append_,run_underlying ht,sizeOf,typeInfo,hi,Builtin.lenOf,Builtin.firstCells]
 ·simp[Builtin.append_,run_underlying ht,sizeOf,typeInfo,hi,Builtin.lenOf,Builtin.firstCells,hnc,storeCells]
theorem Zjd (base:Nat) (t ty e:TypeId) (i:TypeInfo) (z:Value) (size bytes:Nat) (ht:P.underlying t=some (.slice e)) (hi:P.info? e=some i) (hz:i.zero=some z)
  (hsize:i.size=size) (hby:i.bytes=bytes) (hzs:z.cells.size=size) (hsz:0<size)
  (v:Value) (n:Nat) (xs:List Value) (hown:w.Vx base e size v n xs)
  (a:Addr) (m c:Nat) (news:List Value) (hl:news.length=m*size) (hnews:∀ j u,news[j]?=some u->w.cell? (a.add j)=some u) (h1:∀ u∈news,u.oneCell'=true)
  (h63:n+m<=maxLen) (hbytes:(n+m)*bytes<=140737488355328) (hbase:base<=w.heap.size) :
  ∃ v' w',(Builtin.append_ #[t,t] ty #[v,.slice (some a) m c]).run P w=.ok v' w'/\w'.Vx base e size v' (n+m) (xs++news)/\w.grownBy w' v.ownBlock/\
   (v'=.slice none 0 0<->v=.slice none 0 0/\m=0):=by
 subst hsize;subst hby
 have hsmall:n+m<=9223372036854775807:=by simp only[maxLen] at h63;omega
 have hlen:(xs++news).length=(n+m)*i.size:=by rw[List.length_append,hown.1,hl,Nat.add_mul]
 have grown:∀ (old:Nat),old<n+m->∀ (row:Option Nat),
   (w.drew.alloc (.cells (xs.toArray++news.toArray++Builtin.zeroCells z.cells (grownCap w (n+m) old e-(n+m))) e)).Vx base e i.size
    (.slice (some ⟨w.heap.size,0,none⟩) (n+m) (grownCap w (n+m) old e)) (n+m) (xs++news)/\
   w.grownBy (w.drew.alloc (.cells (xs.toArray++news.toArray++Builtin.zeroCells z.cells (grownCap w (n+m) old e-(n+m))) e)) row:=by
  intro old ho row;have hge:=grownCap_ge w (n+m) old e;have hcm:grownCap w (n+m) old e<=maxLen:=grownCap_le_maxLen w (n+m) old e h63;refine ⟨⟨hlen,.inr ⟨w.heap.size,_,_,0,rfl,hbase,heap_alloc_new w.drew _,hge,hcm,?_,?_⟩⟩,⟨rfl,rfl,rfl,by simp,λk hk _=>heap_alloc_old w.drew _ hk⟩⟩
  ·simp only[Array.size_append,List.size_toArray,size_zeroCells,hzs,hown.1,hl,<-Nat.add_mul]
   grind
  grind
 rcases hown.2 with ⟨rfl,rfl⟩ | ⟨g,cap,cur,o,rfl,hbg,hg,hnc,hcm,hcs,htake⟩
 ·have hx:xs=[]:=List.eq_nil_of_length_eq_zero (by simpa using hown.1)
  subst hx;by_cases hm:m=0
  ·subst hm
   have hn:news=[]:=List.eq_nil_of_length_eq_zero (by simpa using hl);subst hn;refine ⟨.slice none 0 0,w,?_,World.ZgG w base e i.size,⟨rfl,rfl,rfl,Nat.le_refl _,λ_ _ _=>rfl⟩,by simp⟩;simp[Builtin.append_,run_underlying ht,sizeOf,typeInfo,hi,Builtin.lenOf,Builtin.firstCells,loadCells,loadCellsFrom]
  ·have hr:=run_append_nil (P:=P) w t ty e i z ht hi hz a m c news hl hnews (by omega) (by omega) (by grind)
   have hgr:=grown 0 (by omega) (Value.ownBlock (.slice none 0 0));grind
 ·by_cases hroom:n+m<=cap
  ·have hmul:n*i.size+m*i.size<=cap*i.size:=by rw[<-Nat.add_mul];exact Nat.mul_le_mul_right _ hroom
   have hfit:o+n*i.size+news.length<=cur.size:=by rw[hl];omega
   have hr:=Zen (P:=P) w t ty e i ht hi g o n cap cur hg a m c news hl hnews h1 hroom hfit;have hxl:=hown.1;refine ⟨_,_,hr,⟨hlen,.inr ⟨g,cap,_,o,rfl,hbg,setRow_heap w g cur _ e _ hg,hroom,hcm,?_,?_⟩⟩,⟨rfl,rfl,rfl,by simp,λk _ hk=>setRow_other w g k _ (λe=>hk (by simp[Value.ownBlock,e]))⟩,by simp⟩;all_goals grind
  ·have holds:∀ j u,xs[j]?=some u->w.cell? ((⟨g,o,none⟩:Addr).add j)=some u:=hown.ZeV rfl
   have hr:=run_append_grow (P:=P) w t ty e i z ht hi hz ⟨g,o,none⟩ n cap xs hown.1 holds a m c news hl hnews (by omega) (by omega) (growslice_fits (by omega) hbytes);have hgr:=grown cap (by omega) (Value.ownBlock (.slice (some ⟨g,o,none⟩) n cap));grind
end
end Go
namespace Go.Sx
set_option linter.unusedVariables false
set_option linter.unusedSimpArgs false
inductive Ty
 | int (k:IntKind)
 | bool
 | str
 | sl (t:Ty)
 | unit
 | pair (a b:Ty)
 | ptr (t:Ty)
 | fn (f:FuncId) (t:Ty)
 | nptr (t:Ty)
 | mp (k v:Ty)
 deriving DecidableEq
@[reducible] def Ty.den:Ty->Type
 | .int _=>Int
 | .bool=>Bool
 | .str=>List UInt8
 | .sl t=>List t.den
 | .unit=>Unit
 | .pair a b=>a.den×b.den
 | .ptr t=>t.den
 | .fn _ t=>t.den
 | .nptr t=>Option t.den
 | .mp k v=>List (k.den×v.den)
def ZT {α β:Type} (d:α×β) (K:α->β->Prop):Prop:=match d with
 | (x,y)=>K x y
theorem Qm {α β:Type} (d:α×β) (K:α->β->Prop):ZT d K=K d.1 d.2:=rfl
def Zqh {t' t:Ty} (h:t'=t) (d:List t'.den) (K:List t.den->Prop):Prop:=Eq.rec (motive:=λt _=>(List t.den->Prop)->Prop) (λK=>K d) h K
def ZtP {t' t:Ty} (h:t'=t) (d:Option t'.den) (K:Option t.den->Prop):Prop:=Eq.rec (motive:=λt _=>(Option t.den->Prop)->Prop) (λK=>K d) h K
theorem Zpo {t' t:Ty} (h:t'=t) (d:Option t'.den) (K:Option t.den->Prop):ZtP h d K=K (h▸d):=by subst h;rfl
theorem Zpn {t' t:Ty} (h:t'=t) (d:List t'.den) (K:List t.den->Prop):Zqh h d K=K (h▸d):=by subst h;rfl
def Ty.size:Ty->Nat
 | .unit=>0
 | .pair a b=>a.size+b.size
 | _=>1
def Ty.agg:Ty->Bool
 | .unit=>true
 | .pair _ _=>true
 | _=>false
def Ty.flat:Ty->Bool
 | .sl _=>false
 | .ptr _=>false
 | .fn _ _=>false
 | .nptr _=>false
 | .mp _ _=>false
 | .pair a b=>a.flat&&b.flat
 | _=>true
def YZ {α:Type} (R:α->List Value->Prop):List α->List Value->Prop
 | [],xs=>xs=[]
 | d::l,xs=>∃ v1 v2,xs=v1++v2/\R d v1/\YZ R l v2
def ZfO (agg:Bool) (v:Value):Prop:=(agg=true->∃ cs,v=.agg cs)/\(agg=false->v.cells=#[v])
def ZbM {α β:Type} (R:α->List Value->Prop) (Q:β->List Value->Prop) (ka va:Bool):List (α×β)->List MapEntry->Prop
 | [],es=>es=[]
 | d::l,es=>∃ e r,es=e::r/\ZfO ka e.key/\R d.1 e.key.cells.toList/\ZfO va e.val/\Q d.2 e.val.cells.toList/\ZbM R Q ka va l r
def rep (S:Nat->Prop) (w:World):(t:Ty)->t.den->List Value->Prop
 | .int k,n,vs=>vs=[.int k n]
 | .bool,b,vs=>vs=[.bool b]
 | .str,s,vs=>vs=[.string ⟨s.toArray⟩]
 | .sl t,l,vs=>∃ a cap,vs=[.slice a l.length cap]/\l.length<=cap/\(a=none->cap=0)/\
   (l=[]\/∃ p xs,a=some p/\p.spot=none/\S p.block/\(∀ j u,xs[j]?=some u->w.cell? (p.add j)=some u)/\YZ (rep S w t) l xs)
 | .unit,_,vs=>vs=[]
 | .pair a b,d,vs=>∃ v1 v2,vs=v1++v2/\rep S w a d.1 v1/\rep S w b d.2 v2
 | .ptr t,d,vs=>∃ p xs,vs=[.pointer (some p)]/\p.spot=none/\S p.block/\(∀ j u,xs[j]?=some u->w.cell? (p.add j)=some u)/\rep S w t d xs
 | .fn f t,d,vs=>∃ xs,vs=[.func (.func f) #[] xs.toArray]/\rep S w t d xs
 | .nptr t,d,vs=>(d=none/\vs=[.pointer none])\/∃ x p xs,d=some x/\vs=[.pointer (some p)]/\p.spot=none/\S p.block/\(∀ j u,xs[j]?=some u->w.cell? (p.add j)=some u)/\rep S w t x xs
 | .mp k v,d,vs=>(d=[]/\vs=[.map none])\/∃ b es clk,vs=[.map (some b)]/\S b/\w.heap[b]?=some (.map es clk)/\ZbM (rep S w k) (rep S w v) k.agg v.agg d es.toList
theorem XT {α:Type} {R R':α->List Value->Prop} (h:∀ d vs,R d vs->R' d vs):∀ l xs,YZ R l xs->YZ R' l xs
 | [],_,e=>e
 | _::l,_,⟨v1,v2,e,r,rs⟩=>⟨v1,v2,e,h _ _ r,XT h l _ rs⟩
theorem Ju {α β:Type} {R R':α->List Value->Prop} {Q Q':β->List Value->Prop} {ka va:Bool} (h:∀ d vs,R d vs->R' d vs) (h':∀ d vs,Q d vs->Q' d vs):∀ l es,ZbM R Q ka va l es->ZbM R' Q' ka va l es
 | [],_,e=>e
 | _::l,_,⟨e,r,e1,f1,r1,f2,r2,rs⟩=>⟨e,r,e1,f1,h _ _ r1,f2,h' _ _ r2,Ju h h' l _ rs⟩
theorem Z6 {S S':Nat->Prop} {w w':World} (hS:∀ b,S b->S' b) (hw:∀ b,S b->w'.heap[b]?=w.heap[b]?) :
  ∀ (t:Ty) (d:t.den) (vs:List Value),rep S w t d vs->rep S' w' t d vs
 | .int _,_,_,h=>h
 | .bool,_,_,h=>h
 | .str,_,_,h=>h
 | .unit,_,_,h=>h
 | .pair a b,_,_,⟨v1,v2,e,ha,hb⟩=>⟨v1,v2,e,Z6 hS hw a _ _ ha,Z6 hS hw b _ _ hb⟩
 | .ptr t,_,_,⟨p,xs,e,hp,hSp,hx,hr⟩=>⟨p,xs,e,hp,hS _ hSp,λj u hu=>by
     have hb:(p.add j).block=p.block:=by unfold Addr.add;split<;>rfl
     rw[World.cell?_of_block (w:=w) (by grind)];exact hx j u hu,Z6 hS hw t _ _ hr⟩
 | .fn _ t,_,_,⟨xs,e,hr⟩=>⟨xs,e,Z6 hS hw t _ _ hr⟩
 | .nptr t,_,_,.inl h=>.inl h
 | .nptr t,_,_,.inr ⟨x,p,xs,e0,e,hp,hSp,hx,hr⟩=>.inr ⟨x,p,xs,e0,e,hp,hS _ hSp,λj u hu=>by
     have hb:(p.add j).block=p.block:=by unfold Addr.add;split<;>rfl
     rw[World.cell?_of_block (w:=w) (by grind)];exact hx j u hu,Z6 hS hw t _ _ hr⟩
 | .mp k v,_,_,.inl h=>.inl h
 | .mp k v,_,_,.inr ⟨b,es,clk,e,hb,hh,h⟩=>.inr ⟨b,es,clk,e,hS _ hb,by grind,Ju (λd vs=>Z6 hS hw k d vs) (λd vs=>Z6 hS hw v d vs) _ _ h⟩
 | .sl t,_,_,⟨a,cap,e,hc,hn,h⟩=>⟨a,cap,e,hc,hn,by
   rcases h with h | ⟨p,xs,ha,hp,hSp,hx,hr⟩
   ·exact .inl h
   ·exact .inr ⟨p,xs,ha,hp,hS _ hSp,λj u hu=>by
     have hb:(p.add j).block=p.block:=by unfold Addr.add;split<;>rfl
     rw[World.cell?_of_block (w:=w) (by grind)];exact hx j u hu,
     XT (λd vs=>Z6 hS hw t d vs) _ _ hr⟩⟩
theorem ZgH {S S':Nat->Prop} {w w':World}:∀ (t:Ty),t.flat=true->∀ (d:t.den) (vs:List Value),rep S w t d vs->rep S' w' t d vs
 | .int _,_,_,_,h=>h
 | .bool,_,_,_,h=>h
 | .str,_,_,_,h=>h
 | .unit,_,_,_,h=>h
 | .pair a b,hf,_,_,⟨v1,v2,e,ha,hb⟩=>by
   simp only[Ty.flat,Bool.and_eq_true] at hf;exact ⟨v1,v2,e,ZgH a hf.1 _ _ ha,ZgH b hf.2 _ _ hb⟩
 | .sl _,hf,_,_,_=>by simp[Ty.flat] at hf
 | .ptr _,hf,_,_,_=>by simp[Ty.flat] at hf
 | .fn _ _,hf,_,_,_=>by simp[Ty.flat] at hf
 | .nptr _,hf,_,_,_=>by simp[Ty.flat] at hf
 | .mp _ _,hf,_,_,_=>by simp[Ty.flat] at hf
theorem YV {S:Nat->Prop} {w:World}:∀ (t:Ty) (d:t.den) (vs:List Value),rep S w t d vs->vs.length=t.size
 | .int _,_,_,h=>by cases h;rfl
 | .bool,_,_,h=>by cases h;rfl
 | .str,_,_,h=>by cases h;rfl
 | .unit,_,_,h=>by cases h;rfl
 | .pair a b,_,_,⟨v1,v2,e,ha,hb⟩=>by
   have h1:=YV a _ _ ha;have h2:=YV b _ _ hb;subst e;simp[Ty.size,h1,h2]
 | .sl _,_,_,⟨a,cap,e,_⟩=>by subst e;rfl
 | .ptr _,_,_,⟨_,_,e,_⟩=>by subst e;rfl
 | .fn _ _,_,_,⟨_,e,_⟩=>by subst e;rfl
 | .nptr _,_,_,.inl ⟨_,e⟩=>by subst e;rfl
 | .nptr _,_,_,.inr ⟨_,_,_,_,e,_⟩=>by subst e;rfl
 | .mp _ _,_,_,.inl ⟨_,e⟩=>by subst e;rfl
 | .mp _ _,_,_,.inr ⟨_,_,_,e,_⟩=>by subst e;rfl
theorem Zjb {α:Type} {R:α->List Value->Prop} {n:Nat} (hn:∀ d vs,R d vs->vs.length=n):∀ l xs,YZ R l xs->xs.length=l.length*n
 | [],xs,e=>by cases e;simp
 | d::l,xs,⟨v1,v2,e,r,rs⟩=>by
   subst e;have h1:=hn _ _ r;have h2:=Zjb hn l _ rs;grind
theorem Zfp {α:Type} {R:α->List Value->Prop}:∀ l l' xs xs',YZ R l xs->YZ R l' xs'->YZ R (l++l') (xs++xs')
 | [],_,_,_,e,h=>by cases e;exact h
 | d::l,l',_,xs',⟨v1,v2,e,r,rs⟩,h=>⟨v1,v2++xs',by subst e;simp,r,Zfp l l' v2 xs' rs h⟩
theorem Zdh {α:Type} {R:α->List Value->Prop} {n:Nat} (hn:∀ d vs,R d vs->vs.length=n):∀ l xs,YZ R l xs->∀ i d,l[i]?=some d->
  ∃ vs,R d vs/\∀ j u,vs[j]?=some u->xs[i*n+j]?=some u
 | [],_,_,i,d,h=>by simp at h
 | d0::l,xs,⟨v1,v2,e,r,rs⟩,0,d,h=>by
   grind
 | d0::l,xs,⟨v1,v2,e,r,rs⟩,i+1,d,h=>by
   simp at h;subst e;obtain ⟨vs,hr,hx⟩:=Zdh hn l v2 rs i d h;grind
theorem Zil {α:Type} {R:α->List Value->Prop} {n:Nat} (hn:∀ d vs,R d vs->vs.length=n):∀ l xs,YZ R l xs->∀ i,
  YZ R (l.drop i) (xs.drop (i*n))
 | [],_,e,i=>by cases e;simp[YZ]
 | d0::l,xs,h,0=>by simpa using h
 | d0::l,xs,⟨v1,v2,e,r,rs⟩,i+1=>by
   subst e;have h1:=hn _ _ r;have h2:=Zil hn l v2 rs i;rw[List.drop_succ_cons,show (i+1)*n=v1.length+i*n by grind,<-List.drop_drop,List.drop_left];exact h2
theorem Zim {α:Type} {R:α->List Value->Prop} {n:Nat} (hn:∀ d vs,R d vs->vs.length=n):∀ l xs,YZ R l xs->∀ i,
  YZ R (l.take i) (xs.take (i*n))
 | [],_,e,i=>by cases e;simp[YZ]
 | d0::l,xs,h,0=>by simp[YZ]
 | d0::l,xs,⟨v1,v2,e,r,rs⟩,i+1=>by
   subst e;have h1:=hn _ _ r;have h2:=Zim hn l v2 rs i;rw[List.take_succ_cons,show (i+1)*n=v1.length+i*n by grind,List.take_append];exact ⟨v1,_,by grind,r,h2⟩
theorem Zm1 {α:Type} {R:α->List Value->Prop} {n:Nat} (hn:∀ d vs,R d vs->vs.length=n):∀ l xs,YZ R l xs->∀ i d vs,i<l.length->R d vs->
  YZ R (l.set i d) (xs.take (i*n)++vs++xs.drop (i*n+n))
 | [],_,_,i,_,_,h,_=>by simp at h
 | d0::l,xs,⟨v1,v2,e,r,rs⟩,0,d,vs,_,hr=>by
   subst e;have h1:=hn _ _ r;refine ⟨vs,v2,by grind,hr,rs⟩
 | d0::l,xs,⟨v1,v2,e,r,rs⟩,i+1,d,vs,hi,hr=>by
   subst e;have h1:=hn _ _ r;have h2:=Zm1 hn l v2 rs i d vs (by simpa using hi) hr;refine ⟨v1,_,?_,r,h2⟩;rw[show (i+1)*n=v1.length+i*n by grind,show v1.length+i*n+n=v1.length+(i*n+n) by omega,List.take_append,List.drop_append];simp[List.take_of_length_le]
inductive SV
 | bot
 | int (k:IntKind) (n:Int)
 | bool (b:Bool)
 | blit (b:Bool)
 | str (s:List UInt8)
 | sl (t:Ty) (d:List t.den)
 | nsl
 | ptr (id off:Nat)
 | own (id:Nat)
 | oep (id:Nat) (sz:Nat) (i:Int) (off:Nat)
 | fptr (cells:List SV)
 | agg (cells:List SV)
 | tup (cells:List SV)
 | fn (f:FuncId) (caps:List SV)
 | nilp
 | nptr (t:Ty) (d:Option t.den)
 | mown (id:Nat)
 | mp (k v:Ty) (d:List (k.den×v.den))
 | gptr (g:Nat)
structure Env where
 S:Nat->Prop
 w:World
 ids:List Value
mutual
def den (E:Env):SV->Value->Prop
 | .bot,_=>True
 | .int k n,v=>v=.int k n
 | .bool b,v=>v=.bool b
 | .blit b,v=>v=.bool b
 | .str s,v=>v=.string ⟨s.toArray⟩
 | .sl t d,v=>rep E.S E.w (.sl t) d [v]
 | .nsl,v=>v=.slice none 0 0
 | .ptr id off,v=>∃ b,E.ids[id]?=some (.pointer (some ⟨b,0,none⟩))/\v=.pointer (some ⟨b,off,none⟩)
 | .own id,v=>E.ids[id]?=some v/\∃ a n c,v=.slice a n c
 | .oep id sz i off,v=>∃ b bo n c,E.ids[id]?=some (.slice (some ⟨b,bo,none⟩) n c)/\v=.pointer (some ⟨b,bo+(i.toNat*sz+off),none⟩)
 | .fptr cs,v=>∃ p vs,v=.pointer (some p)/\p.spot=none/\E.S p.block/\(∀ j u,vs[j]?=some u->E.w.cell? (p.add j)=some u)/\ZW E cs vs
 | .agg cs,v=>∃ vs,v=.agg vs.toArray/\ZW E cs vs
 | .tup cs,v=>∃ vs,v=.tuple vs.toArray/\ZW E cs vs
 | .fn f cs,v=>∃ vs,v=.func (.func f) #[] vs.toArray/\ZW E cs vs
 | .nilp,v=>v=.pointer none
 | .nptr t d,v=>rep E.S E.w (.nptr t) d [v]
 | .mown id,v=>E.ids[id]?=some v/\∃ b,v=.map (some b)
 | .mp k e d,v=>rep E.S E.w (.mp k e) d [v]
 | .gptr g,v=>v=.pointer (some ⟨g,0,none⟩)
def ZW (E:Env):List SV->List Value->Prop
 | [],[]=>True
 | c::cs,v::vs=>den E c v/\ZW E cs vs
 | _,_=>False
end
structure Env.le (E E':Env):Prop where
 S:∀ b,E.S b->E'.S b
 w:∀ b,E.S b->E'.w.heap[b]?=E.w.heap[b]?
 ids:∀ (i:Nat) (v:Value),E.ids[i]?=some v->E'.ids[i]?=some v
theorem Env.le.refl (E:Env):E.le E:=⟨λ_ h=>h,λ_ _=>rfl,λ_ _ h=>h⟩
theorem Env.le.trans {A B C:Env} (h:A.le B) (k:B.le C):A.le C :=
 ⟨λb hb=>k.S b (h.S b hb),λb hb=>(k.w b (h.S b hb)).trans (h.w b hb),λi v hv=>k.ids i v (h.ids i v hv)⟩
theorem add_block (p:Addr) (j:Nat):(p.add j).block=p.block:=by unfold Addr.add;split<;>rfl
theorem add_add (p:Addr) (i j:Nat) (hp:p.spot=none):(p.add i).add j=p.add (i+j):=by
 unfold Addr.add;grind
theorem Znd (p:Addr) (i:Nat) (hp:p.spot=none):(p.add i).spot=none:=by unfold Addr.add;split<;>simp[hp]
theorem add_eq (b o j:Nat):(⟨b,o,none⟩:Addr).add j=⟨b,o+j,none⟩:=by unfold Addr.add;split<;>simp_all
mutual
theorem ZdV {E E':Env} (h:E.le E'):∀ (s:SV) (v:Value),den E s v->den E' s v
 | .bot,_,_=>trivial
 | .int _ _,_,e=>e
 | .bool _,_,e=>e
 | .blit _,_,e=>e
 | .str _,_,e=>e
 | .sl t d,v,e=>Z6 h.S h.w (.sl t) d [v] e
 | .nsl,_,e=>e
 | .ptr _ _,_,⟨b,e1,e2⟩=>⟨b,h.ids _ _ e1,e2⟩
 | .own _,_,⟨e1,e2⟩=>⟨h.ids _ _ e1,e2⟩
 | .oep _ _ _ _,_,⟨b,bo,n,c,e1,e2⟩=>⟨b,bo,n,c,h.ids _ _ e1,e2⟩
 | .fptr cs,_,⟨p,vs,e1,e2,e3,e4,e5⟩=>⟨p,vs,e1,e2,h.S _ e3,λj u hu=>by
   rw[World.cell?_of_block (w:=E.w) (by rw[add_block];exact h.w _ e3)];exact e4 j u hu,ZA h cs vs e5⟩
 | .agg cs,_,⟨vs,e1,e2⟩=>⟨vs,e1,ZA h cs vs e2⟩
 | .tup cs,_,⟨vs,e1,e2⟩=>⟨vs,e1,ZA h cs vs e2⟩
 | .fn _ cs,_,⟨vs,e1,e2⟩=>⟨vs,e1,ZA h cs vs e2⟩
 | .nilp,_,e=>e
 | .nptr t d,v,e=>Z6 h.S h.w (.nptr t) d [v] e
 | .mown _,_,⟨e1,e2⟩=>⟨h.ids _ _ e1,e2⟩
 | .mp k u d,v,e=>Z6 h.S h.w (.mp k u) d [v] e
 | .gptr _,_,e=>e
theorem ZA {E E':Env} (h:E.le E'):∀ (cs:List SV) (vs:List Value),ZW E cs vs->ZW E' cs vs
 | [],[],_=>trivial
 | c::cs,v::vs,⟨e1,e2⟩=>⟨ZdV h c v e1,ZA h cs vs e2⟩
 | [],_::_,e=>e
 | _::_,[],e=>e
end
theorem Yp {E:Env}:∀ (cs:List SV) (vs:List Value),ZW E cs vs->cs.length=vs.length
 | [],[],_=>rfl
 | c::cs,v::vs,h=>by simp only[ZW] at h;simp[Yp cs vs h.2]
 | [],_::_,h=>by simp[ZW] at h
 | _::_,[],h=>by simp[ZW] at h
theorem Zca {E:Env}:∀ (cs:List SV) (vs:List Value),ZW E cs vs->∀ i c v,den E c v->ZW E (cs.set i c) (vs.set i v)
 | [],[],h,i,c,v,_=>by simpa using h
 | c0::cs,v0::vs,h,0,c,v,hc=>by simp only[ZW] at h;exact ⟨hc,h.2⟩
 | c0::cs,v0::vs,h,i+1,c,v,hc=>by simp only[ZW] at h;exact ⟨h.1,Zca cs vs h.2 i c v hc⟩
 | [],_::_,h,_,_,_,_=>by simp[ZW] at h
 | _::_,[],h,_,_,_,_=>by simp[ZW] at h
theorem Jt {E:Env}:∀ (cs:List SV) (vs:List Value),ZW E cs vs->∀ cs' vs',ZW E cs' vs'->ZW E (cs++cs') (vs++vs')
 | [],[],_,_,_,h'=>h'
 | c::cs,v::vs,h,cs',vs',h'=>by simp only[ZW] at h;exact ⟨h.1,Jt cs vs h.2 cs' vs' h'⟩
 | [],_::_,h,_,_,_=>by simp[ZW] at h
 | _::_,[],h,_,_,_=>by simp[ZW] at h
theorem QZ {E:Env}:∀ (cs:List SV) (vs:List Value),ZW E cs vs->∀ i,ZW E (cs.drop i) (vs.drop i)
 | cs,vs,h,0=>by simpa using h
 | [],[],_,i+1=>by simp[ZW]
 | c::cs,v::vs,h,i+1=>by simp only[ZW] at h;simpa using QZ cs vs h.2 i
 | [],_::_,h,_+1=>by simp[ZW] at h
 | _::_,[],h,_+1=>by simp[ZW] at h
theorem Zdo {E:Env}:∀ (cs:List SV) (vs:List Value),ZW E cs vs->∀ i,ZW E (cs.take i) (vs.take i)
 | cs,vs,h,0=>by simp[ZW]
 | [],[],_,i+1=>by simp[ZW]
 | c::cs,v::vs,h,i+1=>by simp only[ZW] at h;simp only[List.take_succ_cons,ZW];exact ⟨h.1,Zdo cs vs h.2 i⟩
 | [],_::_,h,_+1=>by simp[ZW] at h
 | _::_,[],h,_+1=>by simp[ZW] at h
def ZcL:(t:Ty)->t.den->List SV
 | .int k,n=>[.int k n]
 | .bool,b=>[.bool b]
 | .str,s=>[.str s]
 | .sl t,l=>[.sl t l]
 | .unit,_=>[]
 | .pair a b,d=>ZcL a d.1++ZcL b d.2
 | .ptr t,d=>[.fptr (ZcL t d)]
 | .fn f t,d=>[.fn f (ZcL t d)]
 | .nptr t,d=>[.nptr t d]
 | .mp k v,d=>[.mp k v d]
theorem YI {E:Env}:∀ (t:Ty) (d:t.den) (vs:List Value),rep E.S E.w t d vs->ZW E (ZcL t d) vs
 | .int _,_,_,h=>by cases h;exact ⟨rfl,trivial⟩
 | .bool,_,_,h=>by cases h;exact ⟨rfl,trivial⟩
 | .str,_,_,h=>by cases h;exact ⟨rfl,trivial⟩
 | .unit,_,_,h=>by cases h;exact trivial
 | .sl t,l,vs,h=>by
   have h':=h;obtain ⟨a,cap,e,_⟩:=h;subst e;exact ⟨h',trivial⟩
 | .pair a b,_,_,⟨v1,v2,e,ha,hb⟩=>by
   subst e;exact Jt _ _ (YI a _ _ ha) _ _ (YI b _ _ hb)
 | .ptr t,_,_,⟨p,xs,e,hp,hS,hx,hr⟩=>by
   subst e;exact ⟨⟨p,xs,rfl,hp,hS,hx,YI t _ _ hr⟩,trivial⟩
 | .fn f t,_,_,⟨xs,e,hr⟩=>by
   subst e;exact ⟨⟨xs,rfl,YI t _ _ hr⟩,trivial⟩
 | .nptr t,d,vs,h=>by
   have h':=h;rcases h with ⟨_,e⟩ | ⟨_,_,_,_,e,_⟩<;>subst e<;>exact ⟨h',trivial⟩
 | .mp k v,d,vs,h=>by
   have h':=h;rcases h with ⟨_,e⟩ | ⟨_,_,_,e,_⟩<;>subst e<;>exact ⟨h',trivial⟩
end Go.Sx
namespace Go.Sx
set_option linter.unusedVariables false
def ZiH:List (List UInt8):=[[],[102,97,108,115,101],[99,121,99,108,101,115],[109,97,120],[109,105,110]]
def Zp3:List (Int):=[1,10,100,1000,10000,100000,1000000,10000000,100000000,1000000000,10000000000,100000000000,1000000000000,10000000000000,100000000000000,1000000000000000,10000000000000000,100000000000000000,1000000000000000000,10000000000000000000]
def globs:List (Nat×Sigma λt:Ty=>List t.den):=[(0,⟨.str,ZiH⟩),(1,⟨.int .u64,Zp3⟩)]
theorem Zqo:((1,⟨.int .u64,Zp3⟩):Nat×Sigma λt:Ty=>List t.den)∈globs:=.tail _ (.head _)
end Go.Sx
namespace Go.Sx
set_option linter.unusedVariables false
set_option linter.unusedSimpArgs false
inductive Dp
 | flat (t:Ty)
 | ol (et:TypeId) (e:Dp)
 | pair (a b:Dp)
 | mp (k v:Ty)
 deriving DecidableEq
@[reducible] def Dp.ty:Dp->Ty
 | .flat t=>t
 | .ol _ e=>.sl e.ty
 | .pair a b=>.pair a.ty b.ty
 | .mp k v=>.mp k v
def Yl:Value->Option Nat
 | .pointer (some a)=>some a.block
 | .slice (some a) _ _=>some a.block
 | .map (some b)=>some b
 | _=>none
def Jf {α:Type} (R:α->List Value->List Nat->Prop):List α->List Value->List Nat->Prop
 | [],xs,fp=>xs=[]/\fp=[]
 | d::l,xs,fp=>∃ v1 v2 f1 f2,xs=v1++v2/\fp=f1++f2/\R d v1 f1/\Jf R l v2 f2
def ZeQ (S:Nat->Prop) (w:World):(e:Dp)->e.ty.den->List Value->List Nat->Prop
 | .flat t,d,vs,fp=>fp=[]/\rep S w t d vs
 | .ol et e,l,vs,fp=>∃ v xs fps,vs=[v]/\w.Vx 0 et e.ty.size v l.length xs/\Jf (ZeQ S w e) l xs fps/\fp=(Yl v).toList++fps
 | .pair a b,d,vs,fp=>∃ v1 v2 f1 f2,vs=v1++v2/\fp=f1++f2/\ZeQ S w a d.1 v1 f1/\ZeQ S w b d.2 v2 f2
 | .mp k v,d,vs,fp=>∃ b es clk,vs=[.map (some b)]/\fp=[b]/\w.heap[b]?=some (.map es clk)/\ZbM (rep S w k) (rep S w v) k.agg v.agg d es.toList
theorem Y5 {α:Type} {R R':α->List Value->List Nat->Prop}:∀ (l:List α) (xs:List Value) (fp:List Nat),(∀ d vs f,(∀ g∈f,g∈fp)->R d vs f->R' d vs f)->Jf R l xs fp->Jf R' l xs fp
 | [],_,_,_,e=>e
 | _::l,_,fp,h,⟨v1,v2,f1,f2,e,ef,r,rs⟩=>⟨v1,v2,f1,f2,e,ef,h _ _ _ (λg hg=>by rw[ef];simp[hg]) r,
   Y5 l _ _ (λd vs f hf=>h d vs f (λg hg=>by grind)) rs⟩
theorem ZdI {w w':World} {base:Nat} {et:TypeId} {sz n:Nat} {v:Value} {xs:List Value} (h:w.Vx base et sz v n xs) (hb:∀ g,Yl v=some g->w'.heap[g]?=w.heap[g]?):w'.Vx base et sz v n xs:=by
 refine ⟨h.1,?_⟩;rcases h.2 with hn | ⟨g,cap,cur,o,rfl,hg,hh,r⟩
 ·exact .inl hn
 ·exact .inr ⟨g,cap,cur,o,rfl,hg,by rw[hb g rfl];exact hh,r⟩
theorem Yg {S S':Nat->Prop} {w w':World} (hS:∀ b,S b->S' b) (hw:∀ b,S b->w'.heap[b]?=w.heap[b]?) :
  ∀ (e:Dp) (d:e.ty.den) (vs:List Value) (fp:List Nat),(∀ g∈fp,w'.heap[g]?=w.heap[g]?)->ZeQ S w e d vs fp->ZeQ S' w' e d vs fp
 | .flat t,_,_,_,_,⟨h1,h2⟩=>⟨h1,Z6 hS hw t _ _ h2⟩
 | .ol et e,_,_,fp,hf,⟨v,xs,fps,e1,ho,hr,e2⟩=>⟨v,xs,fps,e1,ZdI ho (λg hg=>hf g (by rw[e2];simp[hg])),
   Y5 _ _ _ (λd vs f hsub=>Yg hS hw e d vs f (λg hg=>hf g (by grind))) hr,e2⟩
 | .mp k v,_,_,fp,hf,⟨b,es,clk,e1,e2,hh,h⟩=>⟨b,es,clk,e1,e2,by grind,Ju (λd vs=>Z6 hS hw k d vs) (λd vs=>Z6 hS hw v d vs) _ _ h⟩
 | .pair a b,_,_,fp,hf,⟨v1,v2,f1,f2,e1,e2,h1,h2⟩=>⟨v1,v2,f1,f2,e1,e2,Yg hS hw a _ _ _ (λg hg=>hf g (by rw[e2];simp[hg])) h1,Yg hS hw b _ _ _ (λg hg=>hf g (by rw[e2];simp[hg])) h2⟩
theorem JI {S:Nat->Prop} {w:World}:∀ (e:Dp) (d:e.ty.den) (vs:List Value) (fp:List Nat),ZeQ S w e d vs fp->vs.length=e.ty.size
 | .flat t,_,_,_,⟨_,h⟩=>YV t _ _ h
 | .ol et e,_,_,_,⟨v,xs,fps,e1,_⟩=>by subst e1;rfl
 | .mp _ _,_,_,_,⟨b,es,clk,e1,_⟩=>by subst e1;rfl
 | .pair a b,_,_,_,⟨v1,v2,f1,f2,e1,e2,h1,h2⟩=>by
   have h3:=JI a _ _ _ h1;have h4:=JI b _ _ _ h2;subst e1;simp[Dp.ty,Ty.size,h3,h4]
theorem Zfo {α:Type} {R:α->List Value->List Nat->Prop} {R':α->List Value->Prop}:∀ (l:List α) (xs:List Value) (fp:List Nat),(∀ d vs f,(∀ g∈f,g∈fp)->R d vs f->R' d vs)->Jf R l xs fp->YZ R' l xs
 | [],_,_,_,e=>e.1
 | _::l,_,fp,h,⟨v1,v2,f1,f2,e,ef,r,rs⟩=>⟨v1,v2,e,h _ _ _ (λg hg=>by rw[ef];simp[hg]) r,
   Zfo l _ _ (λd vs f hf=>h d vs f (λg hg=>by grind)) rs⟩
theorem Zok {S:Nat->Prop} {w:World} {et:TypeId} {t:Ty} {d:List t.den} {v:Value} {xs:List Value} (h2:w.Vx 0 et t.size v d.length xs) (h3:YZ (rep S w t) d xs) (hb:∀ g,Yl v=some g->S g):rep S w (.sl t) d [v]:=by
 rcases h2.2 with ⟨rfl,hn⟩ | ⟨g,cap,cur,o,rfl,_,hh,hc,_⟩
 ·exact ⟨none,0,by rw[hn],by omega,λ_=>rfl,.inl (List.eq_nil_of_length_eq_zero hn)⟩
 ·exact ⟨_,cap,rfl,hc,λe=>by simp at e,.inr ⟨_,xs,rfl,rfl,hb g rfl,h2.ZeV rfl,h3⟩⟩
theorem Zdg {S S':Nat->Prop} {w:World} (hS:∀ b,S b->S' b):∀ (e:Dp) (d:e.ty.den) (vs:List Value) (fp:List Nat),(∀ g∈fp,S' g)->ZeQ S w e d vs fp->rep S' w e.ty d vs
 | .flat t,_,_,_,_,⟨_,h⟩=>Z6 hS (λ_ _=>rfl) t _ _ h
 | .ol et e,_,_,fp,hf,⟨v,xs,fps,e1,ho,hr,e2⟩=>by
   subst e1;exact Zok ho (Zfo _ _ _ (λd vs f hsub h=>Zdg hS e d vs f (λg hg=>hf g (by grind)) h) hr) (λg hg=>hf g (by rw[e2];simp[hg]))
 | .mp k v,_,_,fp,hf,⟨b,es,clk,e1,e2,hh,h⟩=>.inr ⟨b,es,clk,e1,hf b (by rw[e2];simp),hh,Ju (λd vs=>Z6 hS (λ_ _=>rfl) k d vs) (λd vs=>Z6 hS (λ_ _=>rfl) v d vs) _ _ h⟩
 | .pair a b,_,_,fp,hf,⟨v1,v2,f1,f2,e1,e2,h1,h2⟩=>⟨v1,v2,e1,Zdg hS a _ _ _ (λg hg=>hf g (by rw[e2];simp[hg])) h1,Zdg hS b _ _ _ (λg hg=>hf g (by rw[e2];simp[hg])) h2⟩
theorem Zem {α:Type} {R:α->List Value->List Nat->Prop}:∀ l l' xs xs' fp fp',Jf R l xs fp->Jf R l' xs' fp'->Jf R (l++l') (xs++xs') (fp++fp')
 | [],_,_,_,_,_,⟨e1,e2⟩,h=>by grind
 | d::l,l',_,xs',_,fp',⟨v1,v2,f1,f2,e,ef,r,rs⟩,h=>⟨v1,v2++xs',f1,f2++fp',by subst e;simp,by subst ef;simp,r,Zem l l' v2 xs' f2 fp' rs h⟩
def ZuW (S:Nat->Prop) (w:World) (et:TypeId) (e:Dp) (d:List e.ty.den) (n:Int) (v:Value) (fp:List Nat):Prop :=
 ∃ xs x1 x2 f1,w.Vx 0 et e.ty.size v d.length xs/\0<=n/\n<=(d.length:Int)/\xs=x1++x2/\x1.length=n.toNat*e.ty.size/\Jf (ZeQ S w e) (d.take n.toNat) x1 f1/\YZ (rep S w e.ty) (d.drop n.toNat) x2/\fp=(Yl v).toList++f1
theorem ZlY {S S':Nat->Prop} {w w':World} (hS:∀ b,S b->S' b) (hw:∀ b,S b->w'.heap[b]?=w.heap[b]?) {et:TypeId} {e:Dp} {d:List e.ty.den} {n:Int} {v:Value} {fp:List Nat} (hf:∀ g∈fp,w'.heap[g]?=w.heap[g]?) (h:ZuW S w et e d n v fp):ZuW S' w' et e d n v fp:=by
 obtain ⟨xs,x1,x2,f1,ho,h0,h1,ex,el,hr1,hr2,e2⟩:=h;exact ⟨xs,x1,x2,f1,ZdI ho (λg hg=>hf g (by rw[e2];simp[hg])),h0,h1,ex,el,Y5 _ _ _ (λd vs f hs=>Yg hS hw e d vs f (λg hg=>hf g (by grind))) hr1,XT (λd vs=>Z6 hS hw e.ty d vs) _ _ hr2,e2⟩
theorem Zl0 {α:Type} {R:α->List Value->List Nat->Prop} {n:Nat} (hn:∀ d vs f,R d vs f->vs.length=n):∀ l xs fp,Jf R l xs fp->∀ i x,l[i]?=some x->
  ∃ x1 vx x2 f1 fx f2,xs=x1++vx++x2/\fp=f1++fx++f2/\x1.length=i*n/\Jf R (l.take i) x1 f1/\R x vx fx/\Jf R (l.drop (i+1)) x2 f2
 | [],_,_,_,i,x,h=>by simp at h
 | d::l,_,_,⟨v1,v2,f1,f2,e,ef,r,rs⟩,0,x,h=>by
   simp at h;subst h;exact ⟨[],v1,v2,[],f1,f2,by simp[e],by simp[ef],by simp,⟨rfl,rfl⟩,r,by simpa using rs⟩
 | d::l,_,_,⟨v1,v2,f1,f2,e,ef,r,rs⟩,i+1,x,h=>by
   obtain ⟨x1,vx,x2,g1,gx,g2,e1,e2,e3,h1,h2,h3⟩:=Zl0 hn l v2 f2 rs i x (by simpa using h);have hl:=hn _ _ _ r;refine ⟨v1++x1,vx,x2,f1++g1,gx,g2,by rw[e,e1];simp,by rw[ef,e2];simp,by grind,⟨v1,x1,f1,g1,rfl,rfl,r,h1⟩,h2,by simpa using h3⟩
theorem ZqD {α:Type} {R:α->List Value->List Nat->Prop} {l:List α} {i:Nat} {x:α} {x1 vx x2:List Value} {f1 fx f2:List Nat} (hi:i<l.length) (h1:Jf R (l.take i) x1 f1) (hx:R x vx fx)
  (h2:Jf R (l.drop (i+1)) x2 f2):Jf R (l.set i x) (x1++vx++x2) (f1++fx++f2):=by
 rw[List.set_eq_take_append_cons_drop,if_pos hi,List.append_assoc,List.append_assoc];exact Zem _ _ _ _ _ _ h1 ⟨vx,x2,fx,f2,rfl,rfl,hx,h2⟩
def ZnU (w w':World):Prop:=∀ p u,w.cell? p=some u->w'.cell? p=some u
theorem ZnU.refl (w:World):ZnU w w:=λ_ _ h=>h
theorem ZnU.trans {a b c:World} (h:ZnU a b) (h':ZnU b c):ZnU a c:=λp u hu=>h' p u (h p u hu)
def Grow (w w':World):Prop:=∀ b,b<w.heap.size->w'.heap[b]?=w.heap[b]?
theorem Grow.refl (w:World):Grow w w:=λ_ _=>rfl
theorem Grow.ZAg {w w':World} (h:Grow w w'):ZnU w w':=by
 intro p u hu;rw[World.cell?_of_block (w:=w) (w':=w') (a:=p) ?_]
 ·exact hu
 ·refine h _ ?_
  refine Nat.lt_of_not_le λhle=>?_;unfold World.cell? at hu;grind
def Zsm (P:Program) (w:World) (x:Sem Value) (u:Value):Prop:=∀ w',ZnU w w'->x.run P w'=.ok u w'
def Zmg (P:Program) (x:Sem Value) (u:Value):Prop:=∀ w',x.run P w'=.ok u w'
theorem Zsm.here {P:Program} {w:World} {x:Sem Value} {u:Value} (h:Zsm P w x u):x.run P w=.ok u w:=h w (ZnU.refl w)
inductive Entry
 | gone
 | box (cells:List SV)
 | arr (et:TypeId) (t:Ty) (d:List t.den)
 | frz (t:Ty) (d:List t.den)
 | fbx (cells:List SV)
 | darr (et:TypeId) (e:Dp) (d:List e.ty.den) (fp:List Nat)
 | hole (et:TypeId) (e:Dp) (d:List e.ty.den) (i:Int) (cells:List SV) (fp:List Nat)
 | mpe (k v:Ty) (d:List (k.den×v.den))
 | spl (et:TypeId) (e:Dp) (d:List e.ty.den) (n:Int) (fp:List Nat)
 | hsp (et:TypeId) (e:Dp) (d:List e.ty.den) (i:Int) (cells:List SV) (fp:List Nat)
 | frm (k v:Ty) (d:List (k.den×v.den))
def Entry.live:Entry->Bool
 | .box _=>true
 | .arr _ _ _=>true
 | .darr _ _ _ _=>true
 | .hole _ _ _ _ _ _=>true
 | .mpe _ _ _=>true
 | .spl _ _ _ _ _=>true
 | .hsp _ _ _ _ _ _=>true
 | _=>false
def Zev:Entry->Value->Nat->Prop
 | .darr _ _ _ fp,_,g=>g∈fp
 | .hole _ _ _ _ _ fp,_,g=>g∈fp
 | .spl _ _ _ _ fp,_,g=>g∈fp
 | .hsp _ _ _ _ _ fp,_,g=>g∈fp
 | _,v,g=>Yl v=some g
def Zpt (E:Env) (id:Nat):Entry->Prop
 | .gone=>True
 | .box cells=>∃ b cs T,E.ids[id]?=some (.pointer (some ⟨b,0,none⟩))/\E.w.heap[b]?=some (.cells cs T (0,0))/\ZW E cells cs.toList
 | .arr et t d=>∃ v xs,E.ids[id]?=some v/\E.w.Vx 0 et t.size v d.length xs/\YZ (rep E.S E.w t) d xs
 | .frz t d=>∃ v,E.ids[id]?=some v/\rep E.S E.w (.sl t) d [v]
 | .fbx cells=>∃ b cs T,E.ids[id]?=some (.pointer (some ⟨b,0,none⟩))/\E.S b/\E.w.heap[b]?=some (.cells cs T (0,0))/\ZW E cells cs.toList
 | .darr et e d fp=>∃ v xs fps,E.ids[id]?=some v/\E.w.Vx 0 et e.ty.size v d.length xs/\Jf (ZeQ E.S E.w e) d xs fps/\fp=(Yl v).toList++fps/\fp.Nodup
 | .hole et e d i cells fp=>∃ v xs x1 vx x2 f1 f2,E.ids[id]?=some v/\E.w.Vx 0 et e.ty.size v d.length xs/\0<=i/\i<(d.length:Int)/\xs=x1++vx++x2/\x1.length=i.toNat*e.ty.size/\vx.length=e.ty.size/\
   Jf (ZeQ E.S E.w e) (d.take i.toNat) x1 f1/\Jf (ZeQ E.S E.w e) (d.drop (i.toNat+1)) x2 f2/\ZW E cells vx/\fp=(Yl v).toList++f1++f2/\fp.Nodup
 | .spl et e d n fp=>∃ v,E.ids[id]?=some v/\ZuW E.S E.w et e d n v fp/\fp.Nodup
 | .hsp et e d i cells fp=>∃ v xs x1 vx x2 f1,E.ids[id]?=some v/\E.w.Vx 0 et e.ty.size v d.length xs/\0<=i/\i<(d.length:Int)/\xs=x1++vx++x2/\x1.length=i.toNat*e.ty.size/\vx.length=e.ty.size/\
   Jf (ZeQ E.S E.w e) (d.take i.toNat) x1 f1/\YZ (rep E.S E.w e.ty) (d.drop (i.toNat+1)) x2/\ZW E cells vx/\fp=(Yl v).toList++f1/\fp.Nodup
 | .mpe k v d=>∃ b es clk,E.ids[id]?=some (.map (some b))/\E.w.heap[b]?=some (.map es clk)/\ZbM (rep E.S E.w k) (rep E.S E.w v) k.agg v.agg d es.toList
 | .frm k v d=>∃ u,E.ids[id]?=some u/\rep E.S E.w (.mp k v) d [u]
structure Base where
 w:World
 S:Nat->Prop
 io:Nat->Prop
 pin:List Value
def ZfC (S:Nat->Prop) (w:World):Prop:=∀ p∈globs,S p.1/\∃ xs,YZ (rep S w p.2.1) p.2.2 xs/\(∃ c m,w.heap[p.1]?=some (.cells xs.toArray c m))/\∀ (j:Nat) (u:Value),xs[j]?=some u->w.cell? ⟨p.1,j,none⟩=some u
theorem ZfC.mono {S S':Nat->Prop} {w w':World} (h:ZfC S w) (hS:∀ b,S b->S' b) (hw:∀ b,S b->w'.heap[b]?=w.heap[b]?):ZfC S' w':=λp hp=>by
 obtain ⟨h1,xs,h2,h4,h3⟩:=h p hp;exact ⟨hS _ h1,xs,XT (λd vs=>Z6 hS hw p.2.1 d vs) _ _ h2,by grind,λj u hu=>by
  rw[World.cell?_of_block (w:=w) (hw _ h1)];exact h3 j u hu⟩
theorem ZfC.le {E E':Env} (h:ZfC E.S E.w) (hle:E.le E'):ZfC E'.S E'.w:=h.mono hle.S hle.w
structure Keeps (B:Base) (w:World):Prop where
 os:w.os=B.w.os
 tape:w.tape=B.w.tape
 output:w.output=B.w.output
 size:B.w.heap.size<=w.heap.size
 block:∀ b,b<B.w.heap.size->¬B.io b->w.heap[b]?=B.w.heap[b]?
structure Inv (B:Base) (E:Env) (H:List Entry):Prop where
 keeps:Keeps B E.w
 Slt:∀ b,E.S b->b<E.w.heap.size
 Sold:∀ b,E.S b->b<B.w.heap.size->B.S b\/B.io b
 glob:ZfC E.S E.w
 len:E.ids.length=H.length
 pin:∀ (i:Nat) (v:Value),B.pin[i]?=some v->E.ids[i]?=some v
 ent:∀ (i:Nat) (e:Entry),H[i]?=some e->Zpt E i e
 free:∀ (i:Nat) (e:Entry) (v:Value) (g:Nat),H[i]?=some e->e.live=true->E.ids[i]?=some v->Zev e v g->¬E.S g/\(B.w.heap.size<=g\/B.io g)/\g<E.w.heap.size
 sep:∀ (i j:Nat) (ei ej:Entry) (vi vj:Value) (g:Nat),H[i]?=some ei->H[j]?=some ej->ei.live=true->ej.live=true->
  E.ids[i]?=some vi->E.ids[j]?=some vj->Zev ei vi g->Zev ej vj g->i=j
theorem Zq0 (v:Value) (g:Nat) (h:v.ownBlock=some g):Yl v=some g:=by
 cases v with
 | slice a n c=>cases a<;>simp_all[Value.ownBlock,Yl]
 | _=>simp[Value.ownBlock] at h
theorem JG {w:World} {base:Nat} {e:TypeId} {size:Nat} {v:Value} {n:Nat} {xs:List Value} (h:w.Vx base e size v n xs):Yl v=v.ownBlock:=by
 rcases h.2 with ⟨rfl,_⟩ | ⟨g,cap,cur,o,rfl,_⟩<;>rfl
theorem Zbg {E E':Env} (h:E.le E') (i:Nat) (e:Entry)
  (hb:e.live=true->∀ v g,E.ids[i]?=some v->Zev e v g->E'.w.heap[g]?=E.w.heap[g]?) (he:Zpt E i e):Zpt E' i e:=by
 cases e with
 | gone=>trivial
 | box cells =>
  obtain ⟨b,cs,T,h1,h2,h3⟩:=he;exact ⟨b,cs,T,h.ids _ _ h1,by rw[hb rfl _ b h1 rfl];exact h2,ZA h _ _ h3⟩
 | arr et t d =>
  obtain ⟨v,xs,h1,h2,h3⟩:=he;refine ⟨v,xs,h.ids _ _ h1,⟨h2.1,?_⟩,XT (λd vs=>Z6 h.S h.w t d vs) _ _ h3⟩;rcases h2.2 with hn | ⟨g,cap,cur,o,rfl,hg,hh,r⟩
  ·exact .inl hn
  ·exact .inr ⟨g,cap,cur,o,rfl,hg,by rw[hb rfl _ g h1 rfl];exact hh,r⟩
 | frz t d =>
  obtain ⟨v,h1,h2⟩:=he;exact ⟨v,h.ids _ _ h1,Z6 h.S h.w (.sl t) d [v] h2⟩
 | fbx cells =>
  obtain ⟨b,cs,T,h1,h2,h3,h4⟩:=he;exact ⟨b,cs,T,h.ids _ _ h1,h.S _ h2,by rw[h.w b h2];exact h3,ZA h _ _ h4⟩
 | darr et e d fp =>
  obtain ⟨v,xs,fps,h1,ho,hr,e1,hnd⟩:=he;have hk:∀ g∈fp,E'.w.heap[g]?=E.w.heap[g]?:=λg hg=>hb rfl v g h1 hg;exact ⟨v,xs,fps,h.ids _ _ h1,ZdI ho (λg hg=>hk g (by rw[e1];simp[hg])),Y5 _ _ _ (λd vs f hs=>Yg h.S h.w e d vs f (λg hg=>hk g (by grind))) hr,e1,hnd⟩
 | spl et e d n fp =>
  obtain ⟨v,h1,hr,hnd⟩:=he;exact ⟨v,h.ids _ _ h1,ZlY h.S h.w (λg hg=>hb rfl v g h1 hg) hr,hnd⟩
 | hsp et e d i cells fp =>
  obtain ⟨v,xs,x1,vx,x2,f1,h1,ho,hi0,hi1,ex,el,el2,hr1,hr2,hd,e1,hnd⟩:=he;have hk:∀ g∈fp,E'.w.heap[g]?=E.w.heap[g]?:=λg hg=>hb rfl v g h1 hg;exact ⟨v,xs,x1,vx,x2,f1,h.ids _ _ h1,ZdI ho (λg hg=>hk g (by rw[e1];simp[hg])),hi0,hi1,ex,el,el2,
   Y5 _ _ _ (λd vs f hs=>Yg h.S h.w e d vs f (λg hg=>hk g (by grind))) hr1,
   XT (λd vs=>Z6 h.S h.w e.ty d vs) _ _ hr2,ZA h _ _ hd,e1,hnd⟩
 | mpe k v d =>
  obtain ⟨b,es,clk,h1,h2,h3⟩:=he;exact ⟨b,es,clk,h.ids _ _ h1,by rw[hb rfl _ b h1 rfl];exact h2,Ju (λd vs=>Z6 h.S h.w k d vs) (λd vs=>Z6 h.S h.w v d vs) _ _ h3⟩
 | frm k v d =>
  obtain ⟨u,h1,h2⟩:=he;exact ⟨u,h.ids _ _ h1,Z6 h.S h.w (.mp k v) d [u] h2⟩
 | hole et e d i cells fp =>
  obtain ⟨v,xs,x1,vx,x2,f1,f2,h1,ho,hi0,hi1,ex,el,el2,hr1,hr2,hd,e1,hnd⟩:=he;have hk:∀ g∈fp,E'.w.heap[g]?=E.w.heap[g]?:=λg hg=>hb rfl v g h1 hg;exact ⟨v,xs,x1,vx,x2,f1,f2,h.ids _ _ h1,ZdI ho (λg hg=>hk g (by rw[e1];simp[hg])),hi0,hi1,ex,el,el2,
   Y5 _ _ _ (λd vs f hs=>Yg h.S h.w e d vs f (λg hg=>hk g (by grind))) hr1,
   Y5 _ _ _ (λd vs f hs=>Yg h.S h.w e d vs f (λg hg=>hk g (by grind))) hr2,ZA h _ _ hd,e1,hnd⟩
theorem Zbi {E:Env} {w':World} {row:Option Nat} (hg:E.w.grownBy w' row) (hS:∀ b,E.S b->b<E.w.heap.size) (hr:∀ g,row=some g->¬E.S g) :
  E.le ⟨E.S,w',E.ids⟩ :=
 ⟨λ_ h=>h,λb hb=>hg.block b (hS b hb) (λe=>hr b e.symm hb),λ_ _ h=>h⟩
theorem Keeps.grown {B:Base} {w w':World} {row:Option Nat} (h:Keeps B w) (hg:w.grownBy w' row) (hr:∀ g,row=some g->B.w.heap.size<=g\/B.io g):Keeps B w' :=
 ⟨hg.os.trans h.os,hg.tape.trans h.tape,hg.output.trans h.output,Nat.le_trans h.size hg.size,λb hb hio =>
  (hg.block b (Nat.lt_of_lt_of_le hb h.size) (λe=>by
   grind)).trans (h.block b hb hio)⟩
theorem Inv.grow {B:Base} {E:Env} {H:List Entry} (h:Inv B E H) {w':World} (hg:E.w.grownBy w' none):Inv B ⟨E.S,w',E.ids⟩ H:=by
 have hle:=Zbi hg h.Slt (λg e=>by simp at e);exact
  {keeps:=h.keeps.grown hg (λg e=>by simp at e)
   Slt:=λb hb=>Nat.lt_of_lt_of_le (h.Slt b hb) hg.size
   Sold:=h.Sold
   glob:=h.glob.le hle
   len:=h.len
   pin:=h.pin
   ent:=λi e hi=>Zbg hle i e (λhl v g hv hb=>hg.block g (h.free i e v g hi hl hv hb).2.2 (by simp)) (h.ent i e hi)
   free:=λi e v g hi hl hv hb=>let ⟨a,b,c⟩:=h.free i e v g hi hl hv hb;⟨a,b,Nat.lt_of_lt_of_le c hg.size⟩
   sep:=h.sep}
theorem Inv.Zqe {B:Base} {E:Env} {H:List Entry} (h:Inv B E H) {i:Nat} {e0:Entry} {v:Value} (hi:H[i]?=some e0) (hl:e0.live=true) (hv:E.ids[i]?=some v) {row:Option Nat} (hrow:∀ g,row=some g->Zev e0 v g)
  {w':World} (hg:E.w.grownBy w' row) (e1:Entry) (hsub:e1.live=true->∀ g,Zev e1 v g->Zev e0 v g) (he1:Zpt ⟨E.S,w',E.ids⟩ i e1):Inv B ⟨E.S,w',E.ids⟩ (H.set i e1):=by
 have hle:=Zbi hg h.Slt (λg e=>(h.free i e0 v g hi hl hv (hrow g e)).1);have hil:i<H.length:=(List.getElem?_eq_some_iff.1 hi).1;have old:∀ (j:Nat) (e:Entry),(H.set i e1)[j]?=some e->(j=i/\e=e1)\/(j≠i/\H[j]?=some e):=by
  grind
 exact
  {keeps:=h.keeps.grown hg (λg e=>(h.free i e0 v g hi hl hv (hrow g e)).2.1)
   Slt:=λb hb=>Nat.lt_of_lt_of_le (h.Slt b hb) hg.size
   Sold:=h.Sold
   glob:=h.glob.le hle
   len:=by simp[h.len]
   pin:=h.pin
   ent:=λj e hj=>by
    rcases old j e hj with ⟨rfl,rfl⟩ | ⟨hne,hj'⟩
    ·exact he1
    ·exact Zbg hle j e (λhlj vj g hvj hbj=>hg.block g (h.free j e vj g hj' hlj hvj hbj).2.2 (λeq=>hne (h.sep j i e e0 vj v g hj' hi hlj hl hvj hv hbj (hrow g eq.symm)))) (h.ent j e hj')
   free:=λj e vj g hj hlj hvj hbj=>by
    rcases old j e hj with ⟨rfl,rfl⟩ | ⟨hne,hj'⟩
    ·have:=hv.symm.trans hvj;simp at this;subst this
     obtain ⟨a,b,c⟩:=h.free j e0 v g hi hl hv (hsub hlj g hbj);exact ⟨a,b,Nat.lt_of_lt_of_le c hg.size⟩
    ·obtain ⟨a,b,c⟩:=h.free j e vj g hj' hlj hvj hbj
     exact ⟨a,b,Nat.lt_of_lt_of_le c hg.size⟩
   sep:=λj k ej ek vj vk g hj hk hlj hlk hvj hvk hbj hbk=>by
    rcases old j ej hj with ⟨rfl,rfl⟩ | ⟨hne,hj'⟩
    ·have:=hv.symm.trans hvj;simp at this;subst this
     rcases old k ek hk with ⟨rfl,rfl⟩ | ⟨hnk,hk'⟩
     ·rfl
     ·exact h.sep j k e0 ek v vk g hi hk' hl hlk hv hvk (hsub hlj g hbj) hbk
    ·rcases old k ek hk with ⟨rfl,rfl⟩ | ⟨hnk,hk'⟩
     ·have:=hv.symm.trans hvk;simp at this;subst this
      exact h.sep j k ej e0 vj v g hj' hi hlj hl hvj hv hbj (hsub hlk g hbk)
     ·exact h.sep j k ej ek vj vk g hj' hk' hlj hlk hvj hvk hbj hbk}
def Entry.thin:Entry->Bool
 | .darr _ _ _ _=>false
 | .hole _ _ _ _ _ _=>false
 | .spl _ _ _ _ _=>false
 | .hsp _ _ _ _ _ _=>false
 | _=>true
theorem ZiF {e:Entry} (h:e.thin=true) (v:Value) (g:Nat):Zev e v g<->Yl v=some g:=by
 cases e<;>first | exact Iff.rfl | cases h
theorem Inv.write {B:Base} {E:Env} {H:List Entry} (h:Inv B E H) {i:Nat} {e0:Entry} {v:Value} (hi:H[i]?=some e0) (hl:e0.live=true) (hv:E.ids[i]?=some v)
  {w':World} (hg:E.w.grownBy w' (Yl v)) (e1:Entry) (he1:Zpt ⟨E.S,w',E.ids⟩ i e1) (h0:e0.thin=true:=by rfl) (h1:e1.thin=true:=by rfl):Inv B ⟨E.S,w',E.ids⟩ (H.set i e1) :=
 h.Zqe hi hl hv (λg hg=>(ZiF h0 v g).2 hg) hg e1 (λ_ g hg=>(ZiF h0 v g).2 ((ZiF h1 v g).1 hg)) he1
theorem Inv.drop {B:Base} {E:Env} {H:List Entry} (h:Inv B E H) (i:Nat):Inv B E (H.set i .gone):=by
 have old:∀ (j:Nat) (e:Entry),(H.set i .gone)[j]?=some e->e=.gone\/H[j]?=some e:=by
  grind
 exact
  {keeps:=h.keeps,Slt:=h.Slt,Sold:=h.Sold,glob:=h.glob,len:=by simp[h.len],pin:=h.pin
   ent:=λj e hj=>by
    rcases old j e hj with rfl | hj'
    ·trivial
    ·exact h.ent j e hj'
   free:=λj e v g hj hl hv hb=>by
    rcases old j e hj with rfl | hj'
    ·simp[Entry.live] at hl
    ·exact h.free j e v g hj' hl hv hb
   sep:=λj k ej ek vj vk g hj hk hlj hlk hvj hvk hbj hbk=>by
    rcases old j ej hj with rfl | hj'
    ·simp[Entry.live] at hlj
    ·rcases old k ek hk with rfl | hk'
     ·simp[Entry.live] at hlk
     ·exact h.sep j k ej ek vj vk g hj' hk' hlj hlk hvj hvk hbj hbk}
theorem Zhv (E:Env) (v:Value):E.le ⟨E.S,E.w,E.ids++[v]⟩ :=
 ⟨λ_ h=>h,λ_ _=>rfl,λi u hu=>by
  grind⟩
theorem Inv.push {B:Base} {E:Env} {H:List Entry} (h:Inv B E H) (v:Value) (e:Entry) (he:Zpt ⟨E.S,E.w,E.ids++[v]⟩ H.length e)
  (hf:e.live=true->∀ g,Zev e v g->¬E.S g/\(B.w.heap.size<=g\/B.io g)/\g<E.w.heap.size/\
   ∀ (j:Nat) (ej:Entry) (vj:Value),H[j]?=some ej->ej.live=true->E.ids[j]?=some vj->¬Zev ej vj g) :
  Inv B ⟨E.S,E.w,E.ids++[v]⟩ (H++[e]):=by
 have hle:=Zhv E v;have old:∀ (j:Nat) (ej:Entry),(H++[e])[j]?=some ej->(j=H.length/\ej=e)\/(j<H.length/\H[j]?=some ej):=by
  grind
 have oldv:∀ (j:Nat) (u:Value),j<H.length->(E.ids++[v])[j]?=some u->E.ids[j]?=some u:=by
  intro j u hlt hu;rwa [List.getElem?_append_left (by rw[h.len];exact hlt)] at hu
 have newv:∀ (u:Value),(E.ids++[v])[H.length]?=some u->u=v:=by
  intro u hu;rw[<-h.len] at hu;simpa using hu.symm
 exact
  {keeps:=h.keeps,Slt:=h.Slt,Sold:=h.Sold,glob:=h.glob,len:=by simp[h.len],pin:=λi u hu=>hle.ids i u (h.pin i u hu)
   ent:=λj ej hj=>by
    rcases old j ej hj with ⟨rfl,rfl⟩ | ⟨_,hj'⟩
    ·exact he
    ·exact Zbg hle j ej (λ_ _ _ _ _=>rfl) (h.ent j ej hj')
   free:=λj ej vj g hj hl hv hb=>by
    rcases old j ej hj with ⟨rfl,rfl⟩ | ⟨hlt,hj'⟩
    ·grind
    ·exact h.free j ej vj g hj' hl (oldv _ _ hlt hv) hb
   sep:=λj k ej ek vj vk g hj hk hlj hlk hvj hvk hbj hbk=>by
    rcases old j ej hj with ⟨rfl,rfl⟩ | ⟨hlt,hj'⟩
    ·grind
    ·rcases old k ek hk with ⟨rfl,rfl⟩ | ⟨hlk',hk'⟩
     ·grind
     ·exact h.sep j k ej ek vj vk g hj' hk' hlj hlk (oldv _ _ hlt hvj) (oldv _ _ hlk' hvk) hbj hbk}
theorem Inv.alloc {B:Base} {E:Env} {H:List Entry} (h:Inv B E H) (o:Obj) (v:Value) (e:Entry) (hv:Yl v=some E.w.heap.size)
  (he:Zpt ⟨E.S,E.w.alloc o,E.ids++[v]⟩ H.length e) (ht:e.thin=true:=by rfl):Inv B ⟨E.S,E.w.alloc o,E.ids++[v]⟩ (H++[e]):=by
 have hg:E.w.grownBy (E.w.alloc o) none:=World.grownBy_alloc E.w o none;refine (h.grow hg).push v e he (λ_ g hb=>?_);have hb:=(ZiF ht v g).1 hb;rw[hv] at hb;simp at hb;subst hb;refine ⟨λhS=>Nat.lt_irrefl _ (h.Slt _ hS),.inl h.keeps.size,by simp,λj ej vj hj hl hvj hb=>?_⟩;exact Nat.lt_irrefl _ (h.free j ej vj _ hj hl hvj hb).2.2
theorem Zne {B:Base} {E:Env} {H:List Entry} (h:Inv B E H) (o:Obj) (v:Value):E.le ⟨E.S,E.w.alloc o,E.ids++[v]⟩ :=
 (Zbi (World.grownBy_alloc E.w o none) h.Slt (λg e=>by simp at e)).trans (Zhv _ v)
theorem ZqZ {E:Env} {et:TypeId} {t:Ty} {d:List t.den} {v:Value} {xs:List Value} (h2:E.w.Vx 0 et t.size v d.length xs) (h3:YZ (rep E.S E.w t) d xs)
  (S':Nat->Prop) (hS:∀ b,E.S b->S' b) (hb:∀ g,Yl v=some g->S' g):rep S' E.w (.sl t) d [v]:=by
 have h3':=XT (R':=rep S' E.w t) (λd vs=>Z6 hS (λ_ _=>rfl) t d vs) _ _ h3;rcases h2.2 with ⟨rfl,hn⟩ | ⟨g,cap,cur,o,rfl,_,hh,hc,_⟩
 ·exact ⟨none,0,by rw[hn],by omega,λ_=>rfl,.inl (List.eq_nil_of_length_eq_zero hn)⟩
 ·exact ⟨_,cap,rfl,hc,λe=>by simp at e,.inr ⟨_,xs,rfl,rfl,hb g rfl,h2.ZeV rfl,h3'⟩⟩
theorem Inv.Zle {B:Base} {E:Env} {H:List Entry} (h:Inv B E H) {i:Nat} {e0:Entry} {v:Value} (hi:H[i]?=some e0) (hl:e0.live=true) (hv:E.ids[i]?=some v) (e1:Entry) (hdead:e1.live=false)
  (he1:Zpt ⟨λb=>E.S b\/Zev e0 v b,E.w,E.ids⟩ i e1):E.le ⟨λb=>E.S b\/Zev e0 v b,E.w,E.ids⟩/\Inv B ⟨λb=>E.S b\/Zev e0 v b,E.w,E.ids⟩ (H.set i e1):=by
 have hil:i<H.length:=(List.getElem?_eq_some_iff.1 hi).1;have hle:E.le ⟨λb=>E.S b\/Zev e0 v b,E.w,E.ids⟩:=⟨λ_ h=>.inl h,λ_ _=>rfl,λ_ _ h=>h⟩;have old:∀ (j:Nat) (e:Entry),(H.set i e1)[j]?=some e->(j=i/\e=e1)\/(j≠i/\H[j]?=some e):=by
  grind
 refine ⟨hle,?_⟩;exact
  {keeps:=h.keeps
   Slt:=λb hb=>hb.elim (h.Slt b) (λe=>(h.free i _ v b hi hl hv e).2.2)
   Sold:=λb hb hlt=>by
    rcases hb with hb | hb
    ·exact h.Sold b hb hlt
    ·rcases (h.free i _ v b hi hl hv hb).2.1 with hh | hh
     all_goals grind
   glob:=h.glob.le hle
   len:=by simp[h.len]
   pin:=h.pin
   ent:=λj e hj=>by
    rcases old j e hj with ⟨rfl,rfl⟩ | ⟨hne,hj'⟩
    ·exact he1
    ·exact Zbg hle j e (λ_ _ _ _ _=>rfl) (h.ent j e hj')
   free:=λj e vj g hj hlj hvj hbj=>by
    rcases old j e hj with ⟨rfl,rfl⟩ | ⟨hne,hj'⟩
    ·grind
    ·obtain ⟨a,b,c⟩:=h.free j e vj g hj' hlj hvj hbj
     exact ⟨λhS=>hS.elim a (λeq=>hne (h.sep j i e _ vj v g hj' hi hlj hl hvj hv hbj eq)),b,c⟩
   sep:=λj k ej ek vj vk g hj hk hlj hlk hvj hvk hbj hbk=>by
    rcases old j ej hj with ⟨rfl,rfl⟩ | ⟨hne,hj'⟩
    ·grind
    ·rcases old k ek hk with ⟨rfl,rfl⟩ | ⟨hnk,hk'⟩
     ·grind
     ·exact h.sep j k ej ek vj vk g hj' hk' hlj hlk hvj hvk hbj hbk}
theorem Inv.freeze {B:Base} {E:Env} {H:List Entry} (h:Inv B E H) {i:Nat} {et:TypeId} {t:Ty} {d:List t.den} {v:Value} (hi:H[i]?=some (.arr et t d)) (hv:E.ids[i]?=some v) :
  ∃ S',E.le ⟨S',E.w,E.ids⟩/\Inv B ⟨S',E.w,E.ids⟩ (H.set i (.frz t d))/\rep S' E.w (.sl t) d [v]/\(∀ b,S' b->E.S b\/Yl v=some b):=by
 obtain ⟨v',xs,h1,h2,h3⟩:=h.ent i _ hi;have:=h1.symm.trans hv;simp at this;subst this;have hr:rep (λb=>E.S b\/Yl v'=some b) E.w (.sl t) d [v']:=ZqZ h2 h3 _ (λ_ h=>.inl h) (λg hg=>.inr hg);obtain ⟨hle,hI⟩:=h.Zle hi rfl hv (.frz t d) rfl ⟨v',hv,hr⟩;exact ⟨_,hle,hI,hr,λb hb=>hb⟩
theorem Inv.ZtW {B:Base} {E:Env} {H:List Entry} (h:Inv B E H) {i:Nat} {et:TypeId} {e:Dp} {d:List e.ty.den} {fp:List Nat} {v:Value} (hi:H[i]?=some (.darr et e d fp)) (hv:E.ids[i]?=some v) :
  ∃ S',E.le ⟨S',E.w,E.ids⟩/\Inv B ⟨S',E.w,E.ids⟩ (H.set i (.frz e.ty d))/\rep S' E.w (.sl e.ty) d [v]/\(∀ b,S' b->E.S b\/b∈fp):=by
 obtain ⟨v',xs,fps,h1,h2,h3,e1,_⟩:=h.ent i _ hi;have:=h1.symm.trans hv;simp at this;subst this;have hr:rep (λb=>E.S b\/b∈fp) E.w (.sl e.ty) d [v'] :=
  Zdg (S:=E.S) (λ_ h=>.inl h) (.ol et e) d [v'] fp (λg hg=>.inr hg) ⟨v',xs,fps,rfl,h2,h3,e1⟩
 obtain ⟨hle,hI⟩:=h.Zle hi rfl hv (.frz e.ty d) rfl ⟨v',hv,hr⟩;exact ⟨_,hle,hI,hr,λb hb=>hb⟩
theorem Inv.ZtX {B:Base} {E:Env} {H:List Entry} (h:Inv B E H) {i:Nat} {k t:Ty} {d:List (k.den×t.den)} {v:Value} (hi:H[i]?=some (.mpe k t d)) (hv:E.ids[i]?=some v) :
  ∃ S',E.le ⟨S',E.w,E.ids⟩/\Inv B ⟨S',E.w,E.ids⟩ (H.set i (.frm k t d))/\rep S' E.w (.mp k t) d [v]/\(∀ b,S' b->E.S b\/Yl v=some b):=by
 obtain ⟨b,es,clk,h1,h2,h3⟩:=h.ent i _ hi;have:=h1.symm.trans hv;simp at this;subst this;have hr:rep (λg=>E.S g\/Yl (.map (some b))=some g) E.w (.mp k t) d [.map (some b)] :=
  .inr ⟨b,es,clk,rfl,.inr rfl,h2,Ju (λd vs=>Z6 (λ_ h=>.inl h) (λ_ _=>rfl) k d vs) (λd vs=>Z6 (λ_ h=>.inl h) (λ_ _=>rfl) t d vs) _ _ h3⟩
 obtain ⟨hle,hI⟩:=h.Zle hi rfl hv (.frm k t d) rfl ⟨_,hv,hr⟩;exact ⟨_,hle,hI,hr,λb hb=>hb⟩
structure Loose (B:Base) (E:Env) (H:List Entry) (gs:List Nat):Prop where
 nodup:gs.Nodup
 free:∀ g∈gs,¬E.S g/\(B.w.heap.size<=g\/B.io g)/\g<E.w.heap.size
 apart:∀ g∈gs,∀ (j:Nat) (ej:Entry) (vj:Value),H[j]?=some ej->ej.live=true->E.ids[j]?=some vj->¬Zev ej vj g
theorem Loose.perm {B:Base} {E:Env} {H:List Entry} {gs gs':List Nat} (h:Loose B E H gs) (hp:gs.Perm gs'):Loose B E H gs' :=
 ⟨hp.nodup_iff.1 h.nodup,λg hg=>h.free g (hp.mem_iff.2 hg),λg hg=>h.apart g (hp.mem_iff.2 hg)⟩
theorem Loose.right {B:Base} {E:Env} {H:List Entry} {f gs:List Nat} (h:Loose B E H (f++gs)):Loose B E H gs :=
 ⟨(List.nodup_append.1 h.nodup).2.1,λg hg=>h.free g (by simp[hg]),λg hg=>h.apart g (by simp[hg])⟩
theorem Loose.push {B:Base} {E:Env} {H:List Entry} {f gs:List Nat} (h:Loose B E H (f++gs)) (hI:Inv B E H) (v:Value) (e:Entry) (hown:e.live=true->∀ g,Zev e v g->g∈f) (he:Zpt ⟨E.S,E.w,E.ids++[v]⟩ H.length e) :
  Inv B ⟨E.S,E.w,E.ids++[v]⟩ (H++[e])/\Loose B ⟨E.S,E.w,E.ids++[v]⟩ (H++[e]) gs:=by
 refine ⟨hI.push v e he (λhl g hg=>?_),?_⟩
 ·have hm:g∈f++gs:=by simp[hown hl g hg]
  obtain ⟨a,b,c⟩:=h.free g hm;exact ⟨a,b,c,λj ej vj hj hl hv=>h.apart g hm j ej vj hj hl hv⟩
 ·refine ⟨(List.nodup_append.1 h.nodup).2.1,λg hg=>h.free g (by simp[hg]),λg hg j ej vj hj hl hv hb=>?_⟩
  by_cases hlt:j<H.length
  ·rw[List.getElem?_append_left hlt] at hj
   have hv':E.ids[j]?=some vj:=by
    have hlt':j<E.ids.length:=by rw[hI.len];exact hlt
    rwa [List.getElem?_append_left hlt'] at hv
   exact h.apart g (by simp[hg]) j ej vj hj hl hv' hb
  ·have h2:j<(H++[e]).length:=(List.getElem?_eq_some_iff.1 hj).1
   have:j=H.length:=by simp at h2;omega
   subst this;simp at hj;subst hj;have hv':vj=v:=by
    have hv2:(E.ids++[v])[H.length]?=some vj:=hv;rw[<-hI.len] at hv2;simpa using hv2.symm
   subst hv';exact (List.nodup_append.1 h.nodup).2.2 g (hown hl g hb) g hg rfl
theorem Loose.take {B:Base} {E:Env} {H:List Entry} {gs:List Nat} (h:Loose B E H gs) (hI:Inv B E H) {i:Nat} {e:Entry} {v:Value} (hi:H[i]?=some e) (hl:e.live=true) (hv:E.ids[i]?=some v) {f:List Nat}
  (hnd:f.Nodup) (hf:∀ g∈f,Zev e v g):Loose B E (H.set i .gone) (f++gs):=by
 have hlt:i<H.length:=(List.getElem?_eq_some_iff.1 hi).1;have hold:∀ (j:Nat) (ej:Entry),(H.set i .gone)[j]?=some ej->ej.live=true->j≠i/\H[j]?=some ej:=by
  intro j ej hj hl;by_cases hji:i=j
  ·subst hji;rw[List.getElem?_set_self hlt] at hj;simp at hj;subst hj;simp[Entry.live] at hl
  ·rw[List.getElem?_set_ne hji] at hj;exact ⟨Ne.symm hji,hj⟩
 refine ⟨List.nodup_append.2 ⟨hnd,h.nodup,?_⟩,λg hg=>?_,λg hg j ej vj hj hl' hvj hb=>?_⟩
 ·rintro g hg g' hg' rfl
  exact h.apart g hg' i e v hi hl hv (hf g hg)
 ·rcases List.mem_append.1 hg with hg | hg
  ·exact hI.free i e v g hi hl hv (hf g hg)
  ·exact h.free g hg
 ·obtain ⟨hne,hj'⟩:=hold j ej hj hl'
  rcases List.mem_append.1 hg with hg | hg
  ·exact hne (hI.sep j i ej e vj v g hj' hi hl' hl hvj hv hb (hf g hg))
  ·exact h.apart g hg j ej vj hj' hl' hvj hb
theorem Loose.le {B:Base} {E:Env} {H:List Entry} {gs:List Nat} (h:Loose B E H gs):Loose B E H ([]++gs):=h
theorem Loose.put {B:Base} {E:Env} {H:List Entry} {f gs:List Nat} (h:Loose B E H (f++gs)) (hI:Inv B E H) {id:Nat} {v:Value} (hlt:id<H.length) (hv:E.ids[id]?=some v) (e:Entry) (hown:e.live=true->∀ g,Zev e v g->g∈f) (he:Zpt E id e) :
  Inv B E (H.set id e)/\Loose B E (H.set id e) gs:=by
 have old:∀ (j:Nat) (e1:Entry),(H.set id e)[j]?=some e1->(j=id/\e1=e)\/(j≠id/\H[j]?=some e1):=by
  intro j e1 hj;by_cases hji:id=j
  ·subst hji;rw[List.getElem?_set_self hlt] at hj;exact .inl ⟨rfl,by simpa using hj.symm⟩
  ·rw[List.getElem?_set_ne hji] at hj;exact .inr ⟨Ne.symm hji,hj⟩
 refine ⟨?_,?_⟩
 ·exact
   {keeps:=hI.keeps,Slt:=hI.Slt,Sold:=hI.Sold,glob:=hI.glob,len:=by simp[hI.len],pin:=hI.pin
    ent:=λj e1 hj=>by
     rcases old j e1 hj with ⟨rfl,rfl⟩ | ⟨_,hj'⟩
     ·exact he
     ·exact hI.ent j e1 hj'
    free:=λj e1 u g hj hl hu hb=>by
     rcases old j e1 hj with ⟨rfl,rfl⟩ | ⟨_,hj'⟩
     ·have:=hv.symm.trans hu;simp at this;subst this
      exact h.free g (by simp[hown hl g hb])
     ·exact hI.free j e1 u g hj' hl hu hb
    sep:=λi j ei ej vi vj g hi hj hli hlj hvi hvj hbi hbj=>by
     rcases old i ei hi with ⟨rfl,rfl⟩ | ⟨hni,hi'⟩
     ·have:=hv.symm.trans hvi;simp at this;subst this
      rcases old j ej hj with ⟨rfl,rfl⟩ | ⟨hnj,hj'⟩
      ·rfl
      ·exact absurd hbj (h.apart g (by simp[hown hli g hbi]) j ej vj hj' hlj hvj)
     ·rcases old j ej hj with ⟨rfl,rfl⟩ | ⟨hnj,hj'⟩
      ·have:=hv.symm.trans hvj;simp at this;subst this
       exact absurd hbi (h.apart g (by simp[hown hlj g hbj]) i ei vi hi' hli hvi)
      ·exact hI.sep i j ei ej vi vj g hi' hj' hli hlj hvi hvj hbi hbj}
 ·refine ⟨(List.nodup_append.1 h.nodup).2.1,λg hg=>h.free g (by simp[hg]),λg hg j e1 u hj hl hu hb=>?_⟩
  rcases old j e1 hj with ⟨rfl,rfl⟩ | ⟨_,hj'⟩
  ·have:=hv.symm.trans hu;simp at this;subst this
   exact (List.nodup_append.1 h.nodup).2.2 g (hown hl g hb) g hg rfl
  ·exact h.apart g (by simp[hg]) j e1 u hj' hl hu hb
theorem Loose.drop {B:Base} {E:Env} {H:List Entry} {gs:List Nat} (h:Loose B E H gs) (i:Nat):Loose B E (H.set i .gone) gs:=by
 refine ⟨h.nodup,h.free,λg hg j ej vj hj hl hv hb=>?_⟩;by_cases hji:i=j
 ·subst hji
  have hlt:i<H.length:=by have:=(List.getElem?_eq_some_iff.1 hj).1;simpa using this
  rw[List.getElem?_set_self hlt] at hj;simp at hj;subst hj;cases hl
 ·rw[List.getElem?_set_ne hji] at hj;exact h.apart g hg j ej vj hj hl hv hb
theorem Inv.part {B:Base} {E:Env} {H H':List Entry} (h:Inv B E H) (hlen:H'.length=H.length) (hp:∀ (j:Nat) (e:Entry),H'[j]?=some e->e=.gone\/H[j]?=some e):Inv B E H' :=
 {keeps:=h.keeps,Slt:=h.Slt,Sold:=h.Sold,glob:=h.glob,len:=by rw[hlen];exact h.len,pin:=h.pin
  ent:=λj e hj=>by
   rcases hp j e hj with rfl | hj'
   ·trivial
   ·exact h.ent j e hj'
  free:=λj e v g hj hl hv hb=>by
   rcases hp j e hj with rfl | hj'
   ·cases hl
   ·exact h.free j e v g hj' hl hv hb
  sep:=λi j ei ej vi vj g hi hj hli hlj hvi hvj hbi hbj=>by
   rcases hp i ei hi with rfl | hi'
   ·cases hli
   ·rcases hp j ej hj with rfl | hj'
    ·cases hlj
    ·exact h.sep i j ei ej vi vj g hi' hj' hli hlj hvi hvj hbi hbj}
structure Frz (E:Env) (H:List Entry) (E':Env) (H':List Entry):Prop where
 w:E'.w=E.w
 ids:E'.ids=E.ids
 len:H'.length=H.length
 le:E.le E'
 S:∀ b,E'.S b->E.S b\/∃ (j:Nat) (e:Entry) (v:Value),H[j]?=some e/\e.live=true/\E.ids[j]?=some v/\Zev e v b
 ent:∀ (j:Nat) (e':Entry) (v:Value) (g:Nat),H'[j]?=some e'->e'.live=true->E.ids[j]?=some v->Zev e' v g->∃ e,H[j]?=some e/\e.live=true/\Zev e v g
 box:∀ (i:Nat) (c:List SV),H'[i]?=some (.box c)->H[i]?=some (.box c)
 gone:∀ (i:Nat),H[i]?=some .gone->H'[i]?=some .gone
 same:∀ (j:Nat) (e':Entry),H'[j]?=some e'->e'.live=true->H[j]?=some e'
theorem Frz.refl (E:Env) (H:List Entry):Frz E H E H :=
 ⟨rfl,rfl,rfl,Env.le.refl E,λb h=>.inl h,λj e v g h hl _ hb=>⟨e,h,hl,hb⟩,λ_ _ h=>h,λ_ h=>h,λ_ _ h _=>h⟩
theorem Frz.trans {E:Env} {H:List Entry} {E1:Env} {H1:List Entry} {E2:Env} {H2:List Entry} (h:Frz E H E1 H1) (k:Frz E1 H1 E2 H2):Frz E H E2 H2 where
 w:=k.w.trans h.w
 ids:=k.ids.trans h.ids
 len:=k.len.trans h.len
 le:=h.le.trans k.le
 S:=λb hb=>by
  rcases k.S b hb with hb | ⟨j,e,v,h1,h2,h3,h4⟩
  ·exact h.S b hb
  ·obtain ⟨e0,g1,g2,g3⟩:=h.ent j e v b h1 h2 (by rw[<-h.ids];exact h3) h4
   exact .inr ⟨j,e0,v,g1,g2,by rw[<-h.ids];exact h3,g3⟩
 ent:=λj e v g hj hl hv hb=>by
  obtain ⟨e1,h1,h2,h3⟩:=k.ent j e v g hj hl (by rw[h.ids];exact hv) hb;exact h.ent j e1 v g h1 h2 hv h3
 box:=λi c hi=>h.box i c (k.box i c hi)
 gone:=λi hi=>k.gone i (h.gone i hi)
 same:=λj e hj hl=>h.same j e (k.same j e hj hl) hl
theorem Frz.one {E:Env} {H:List Entry} {i:Nat} {e0 e1:Entry} {v:Value} (hi:H[i]?=some e0) (hl:e0.live=true) (hv:E.ids[i]?=some v) (hdead:e1.live=false) {S':Nat->Prop}
  (hle:E.le ⟨S',E.w,E.ids⟩) (hS:∀ b,S' b->E.S b\/Zev e0 v b):Frz E H ⟨S',E.w,E.ids⟩ (H.set i e1):=by
 have hlt:=(List.getElem?_eq_some_iff.1 hi).1;have old:∀ (j:Nat) (e:Entry),(H.set i e1)[j]?=some e->e=e1\/H[j]?=some e:=by
  intro j e hj;by_cases hji:i=j
  ·subst hji;rw[List.getElem?_set_self hlt] at hj;exact .inl (by simpa using hj.symm)
  ·rw[List.getElem?_set_ne hji] at hj;exact .inr hj
 exact
  {w:=rfl,ids:=rfl,len:=by simp,le:=hle
   S:=λb hb=>(hS b hb).imp_right λh=>⟨i,e0,v,hi,hl,hv,h⟩
   ent:=λj e v g hj hl _ hb=>by
    rcases old j e hj with rfl | hj'
    ·rw[hdead] at hl;cases hl
    ·exact ⟨e,hj',hl,hb⟩
   box:=λj c hj=>by
    rcases old j _ hj with h | hj'
    ·rw[<-h] at hdead;cases hdead
    ·exact hj'
   gone:=λj hj=>by
    by_cases hji:i=j
    ·subst hji;rw[hi] at hj;simp at hj;subst hj;cases hl
    ·rw[List.getElem?_set_ne hji];exact hj
   same:=λj e hj hl'=>by
    rcases old j e hj with rfl | hj'
    ·rw[hdead] at hl';cases hl'
    ·exact hj'}
theorem Loose.frz {B:Base} {E:Env} {H:List Entry} {gs:List Nat} (h:Loose B E H gs) {E':Env} {H':List Entry} (k:Frz E H E' H'):Loose B E' H' gs :=
  ⟨h.nodup,λg hg=>by
    obtain ⟨a,b,c⟩:=h.free g hg;refine ⟨λhs=>?_,b,by rw[k.w];exact c⟩;rcases k.S g hs with hs | ⟨j,e,v,h1,h2,h3,h4⟩
    · exact a hs
    · exact h.apart g hg j e v h1 h2 h3 h4,
   λg hg j e v hj hl hv hb=>by
    obtain ⟨e0,h1,h2,h3⟩:=k.ent j e v g hj hl (by rw[<-k.ids];exact hv) hb;exact h.apart g hg j e0 v h1 h2 (by rw[<-k.ids];exact hv) h3⟩
def Zhr (E:Env) (H H':List Entry) (f:List Nat):Prop:=∀ g∈f,∃ (i:Nat) (e:Entry) (v:Value),H[i]?=some e/\e.live=true/\E.ids[i]?=some v/\Zev e v g/\H'[i]?=some .gone
theorem Zhr.nil (E:Env) (H H':List Entry):Zhr E H H' []:=λg hg=>by simp at hg
theorem Zhr.append {E:Env} {H H':List Entry} {f f':List Nat} (h:Zhr E H H' f) (h':Zhr E H H' f'):Zhr E H H' (f++f'):=λg hg=>(List.mem_append.1 hg).elim (h g) (h' g)
theorem Zhr.later {E:Env} {H H1 H2:List Entry} {E1 E2:Env} {f:List Nat} (h:Zhr E H H1 f) (k:Frz E1 H1 E2 H2):Zhr E H H2 f:=λg hg=>by
 obtain ⟨i,e,v,h1,h2,h3,h4,h5⟩:=h g hg;exact ⟨i,e,v,h1,h2,h3,h4,k.gone i h5⟩
theorem Zhr.after {E:Env} {H:List Entry} {E1:Env} {H1 H2:List Entry} {f:List Nat} (k:Frz E H E1 H1) (h:Zhr E1 H1 H2 f):Zhr E H H2 f:=λg hg=>by
 obtain ⟨i,e,v,h1,h2,h3,h4,h5⟩:=h g hg;obtain ⟨e0,g1,g2,g3⟩:=k.ent i e v g h1 h2 (by rw[<-k.ids];exact h3) h4;exact ⟨i,e0,v,g1,g2,by rw[<-k.ids];exact h3,g3,h5⟩
theorem Zhr.sub {E:Env} {H H':List Entry} {f f':List Nat} (h:Zhr E H H' f) (hs:∀ g∈f',g∈f):Zhr E H H' f':=λg hg=>h g (hs g hg)
def ZkB:List Entry->List Entry->List Entry
 | [],_=>[]
 | e::r,[]=>e::r
 | e::r,e1::r1=>match e1 with
  | .gone=>.gone::ZkB r r1
  | _=>e::ZkB r r1
theorem Zkf:∀ (H H1:List Entry),(ZkB H H1).length=H.length
 | [],_=>rfl
 | _::_,[]=>rfl
 | e::r,e1::r1=>by
  unfold ZkB;split<;>simp[Zkf r r1]
theorem Zjc:∀ (H H1:List Entry) (j:Nat) (e:Entry),(ZkB H H1)[j]?=some e->e=.gone\/(H[j]?=some e/\H1[j]?≠some .gone)
 | [],_,j,e,h=>by simp[ZkB] at h
 | e0::r,[],j,e,h=>by
  simp only[ZkB] at h;exact .inr ⟨h,by simp⟩
 | e0::r,e1::r1,j,e,h=>by
  unfold ZkB at h;split at h
  ·cases j with
   | zero=>simp at h;exact .inl h.symm
   | succ j=>simpa using Zjc r r1 j e (by simpa using h)
  ·rename_i hne
   cases j with
   | zero =>
    simp at h;subst h;refine .inr ⟨rfl,λhe=>?_⟩;simp at he;exact hne he
   | succ j=>simpa using Zjc r r1 j e (by simpa using h)
theorem Zpb {B:Base} {E E1:Env} {H H1:List Entry} {f:List Nat} (hI:Inv B E H) (k:Frz E H E1 H1) (hL:Loose B E1 H1 f) (hT:Zhr E H H1 f):Inv B E (ZkB H H1)/\Loose B E (ZkB H H1) f:=by
 refine ⟨hI.part (Zkf H H1) (λj e hj=>(Zjc H H1 j e hj).imp_right And.left),hL.nodup,λg hg=>?_,λg hg j e v hj hl hv hb=>?_⟩
 ·obtain ⟨a,b,c⟩:=hL.free g hg
  exact ⟨λhs=>a (k.le.S g hs),b,by rw[<-k.w];exact c⟩
 ·rcases Zjc H H1 j e hj with rfl | ⟨hj',hne⟩
  ·cases hl
  ·obtain ⟨i,e0,u,h1,h2,h3,h4,h5⟩:=hT g hg
   have:=hI.sep j i e e0 v u g hj' h1 hl h2 hv h3 hb h4;subst this;exact hne h5
inductive TK
 | int (k:IntKind)
 | bool
 | str
 | sl
 | arr (n:Nat)
 | st
 | ptr
 | mp (k e:TypeId)
 | oth
def ZqQ:TypeDesc->TK
 | .int k=>.int k
 | .bool=>.bool
 | .string=>.str
 | .slice _=>.sl
 | .array n _=>.arr n
 | .struct _=>.st
 | .pointer _=>.ptr
 | .map k e=>.mp k e
 | _=>.oth
def TK.agg:TK->Bool
 | .st=>true
 | .arr _=>true
 | _=>false
def TK.Zv5:TK->Bool
 | .st=>true
 | _=>false
inductive EqD
 | nil
 | int (k:IntKind) (o:Nat) (r:EqD)
 | bool (o:Nat) (r:EqD)
 | str (o:Nat) (r:EqD)
 | st (o sz:Nat) (fs r:EqD)
def ZpI (k:IntKind):Option TypeDesc->Bool
 | some (.int k')=>decide (k'=k)
 | _=>false
def Znr:Option TypeDesc->Bool
 | some .bool=>true
 | _=>false
def ZpJ:Option TypeDesc->Bool
 | some .string=>true
 | _=>false
def EqD.fits (P:Program):EqD->List Field->Bool
 | .nil,fl=>fl.isEmpty
 | .int k o r,fl=>match fl with
  | []=>false
  | f::fl=>f.name != "_" && f.offset == o&&ZpI k (P.underlying f.type)&&r.fits P fl
 | .bool o r,fl=>match fl with
  | []=>false
  | f::fl=>f.name != "_" && f.offset == o&&Znr (P.underlying f.type)&&r.fits P fl
 | .str o r,fl=>match fl with
  | []=>false
  | f::fl=>f.name != "_" && f.offset == o&&ZpJ (P.underlying f.type)&&r.fits P fl
 | .st o sz fs r,fl=>match fl with
  | []=>false
  | f::fl=>f.name != "_" && f.offset == o&&(match P.underlying f.type with
    | some (.struct gs)=>!P.stoodInHeld f.type&&fs.fits P gs.toList
    | _=>false)&&(P.info? f.type).map (·.size) == some sz&&r.fits P fl
def EqD.isNil:EqD->Bool
 | .nil=>true
 | _=>false
structure TI where
 size:Nat
 bytes:Nat
 zero:Value
 kind:TK
 flds:List (Nat×Nat×Bool):=[]
 elem:TypeId:=0
 esize:Nat:=0
 ebytes:Nat:=0
 ezero:Value:=undef
 eagg:Bool:=false
 ty:Ty:=.unit
 ety:Ty:=.unit
 eqd:EqD:=.nil
 edp:Option Dp:=none
 cut:Bool:=false
def ZeS:TypeDesc->Bool
 | .struct _=>true
 | .array _ _=>true
 | _=>false
structure ZaH (P:Program) (T:TypeId) (ti:TI):Prop where
 info:(P.info? T).map (λi=>(i.size,i.bytes,i.zero))=some (ti.size,ti.bytes,some ti.zero)
 kind:(P.underlying T).map ZqQ=some ti.kind
 flds:(match P.underlying T with
  | some (.struct fs)=>fs.toList.map (λf=>(f.offset,(P.info? f.type).map (·.size),(P.underlying f.type).map ZeS))
  | _=>[])=ti.flds.map (λx=>(x.1,some x.2.1,some x.2.2))
 elem:(match P.underlying T with
  | some (.slice e)=>some (e,(P.info? e).map (λi=>(i.size,i.bytes,i.zero)),((P.underlying e).map ZeS))
  | some (.array _ e)=>some (e,(P.info? e).map (λi=>(i.size,i.bytes,i.zero)),((P.underlying e).map ZeS))
  | _=>none)=(match ti.kind with
  | .sl=>some (ti.elem,some (ti.esize,ti.ebytes,some ti.ezero),some ti.eagg)
  | .arr _=>some (ti.elem,some (ti.esize,ti.ebytes,some ti.ezero),some ti.eagg)
  | _=>none)
 eqd:(ti.eqd.isNil||match P.underlying T with
  | some (.struct fs)=>!P.stoodInHeld T&&ti.eqd.fits P fs.toList&&!P.eqGuardType P.depth T
  | _=>false)=true
abbrev Tab:=List (Nat×TI)
def Tab.ok (Δ:Tab) (P:Program):Prop:=∀ x∈Δ,ZaH P x.1 x.2
def Zax:Tab->Nat->(TI->Prop)->Prop
 | [],_,_=>False
 | (n,ti)::r,T,K=>if n=T then K ti else Zax r T K
theorem YP {P:Program}:∀ (Δ:Tab),Δ.ok P->∀ {T:Nat} {K:TI->Prop},Zax Δ T K->∃ ti,ZaH P T ti/\K ti
 | [],_,_,_,h=>h.elim
 | (n,ti)::r,hΔ,T,K,h=>by
  unfold Zax at h;split at h
  ·rename_i e;subst e;exact ⟨ti,hΔ (n,ti) (by simp),h⟩
  ·exact YP r (λx hx=>hΔ x (by simp[hx])) h
def Zkk:List SV->Nat->(SV->Prop)->Prop
 | [],_,_=>False
 | s::_,0,K=>K s
 | _::r,n+1,K=>Zkk r n K
theorem Jv {E:Env}:∀ (cs:List SV) (vs:List Value),ZW E cs vs->∀ {n:Nat} {K:SV->Prop},Zkk cs n K->∃ s v,vs[n]?=some v/\den E s v/\K s/\cs[n]?=some s
 | [],_,_,_,_,h=>h.elim
 | c::cs,v::vs,hd,0,K,h=>by simp only[ZW] at hd;exact ⟨c,v,rfl,hd.1,h,rfl⟩
 | c::cs,v::vs,hd,n+1,K,h=>by simp only[ZW] at hd;simpa using Jv cs vs hd.2 (n:=n) h
 | _::_,[],hd,_,_,_=>by simp[ZW] at hd
def ZqF:List SV->Nat->SV->(List SV->Prop)->Prop
 | [],_,_,K=>K []
 | _::r,0,s,K=>K (s::r)
 | x::r,n+1,s,K=>ZqF r n s λr'=>K (x::r')
theorem Zb1:∀ (cs:List SV) (n:Nat) (s:SV) (K:List SV->Prop),ZqF cs n s K=K (cs.set n s)
 | [],_,_,_=>rfl
 | _::_,0,_,_=>rfl
 | x::r,n+1,s,K=>by simp[ZqF,Zb1 r n s]
def ZnV {α:Type}:List α->List α->(List α->Prop)->Prop
 | [],l,K=>K l
 | x::r,l,K=>ZnV r l λr'=>K (x::r')
theorem Jc {α:Type}:∀ (cs l:List α) (K:List α->Prop),ZnV cs l K=K (cs++l)
 | [],_,_=>rfl
 | x::r,l,K=>by simp[ZnV,Jc r l]
def Zgb {α:Type}:List α->Nat->(List α->Prop)->Prop
 | l,0,K=>K l
 | [],_+1,K=>K []
 | _::r,n+1,K=>Zgb r n K
theorem JW {α:Type}:∀ (cs:List α) (n:Nat) (K:List α->Prop),Zgb cs n K=K (cs.drop n)
 | l,0,_=>by cases l<;>rfl
 | [],_+1,_=>rfl
 | _::r,n+1,K=>by simp[Zgb,JW r n]
def ZmJ {α:Type}:List α->Nat->(List α->Prop)->Prop
 | _,0,K=>K []
 | [],_+1,K=>K []
 | x::r,n+1,K=>ZmJ r n λr'=>K (x::r')
theorem Zfw {α:Type}:∀ (cs:List α) (n:Nat) (K:List α->Prop),ZmJ cs n K=K (cs.take n)
 | l,0,_=>by cases l<;>rfl
 | [],_+1,_=>rfl
 | x::r,n+1,K=>by simp[ZmJ,Zfw r n]
def ZoX {α:Type}:List α->Nat->(Nat->Prop)->Prop
 | [],n,K=>K n
 | _::r,n,K=>ZoX r (n+1) K
theorem Zaj {α:Type}:∀ (l:List α) (n:Nat) (K:Nat->Prop),ZoX l n K=K (n+l.length)
 | [],_,_=>rfl
 | _::r,n,K=>by simp[ZoX,Zaj r (n+1),Nat.add_assoc,Nat.add_comm 1]
def ZdW:List Entry->Nat->(Entry->Prop)->Prop
 | [],_,_=>False
 | s::_,0,K=>K s
 | _::r,n+1,K=>ZdW r n K
theorem Yu:∀ (H:List Entry) {n:Nat} {K:Entry->Prop},ZdW H n K->∃ e,H[n]?=some e/\K e
 | [],_,_,h=>h.elim
 | e::_,0,K,h=>⟨e,rfl,h⟩
 | _::r,n+1,K,h=>by simpa using Yu r (n:=n) h
def ZeR:List Entry->Nat->Entry->(List Entry->Prop)->Prop
 | [],_,_,K=>K []
 | _::r,0,s,K=>K (s::r)
 | x::r,n+1,s,K=>ZeR r n s λr'=>K (x::r')
theorem YO:∀ (cs:List Entry) (n:Nat) (s:Entry) (K:List Entry->Prop),ZeR cs n s K=K (cs.set n s)
 | [],_,_,_=>rfl
 | _::_,0,_,_=>rfl
 | x::r,n+1,s,K=>by simp[ZeR,YO r n s]
def XA:(t:Ty)->t.den->(List SV->Prop)->Prop
 | .int k,n,K=>K [.int k n]
 | .bool,b,K=>K [.bool b]
 | .str,s,K=>K [.str s]
 | .sl t,l,K=>K [.sl t l]
 | .unit,_,K=>K []
 | .ptr t,d,K=>XA t d λcs=>K [.fptr cs]
 | .fn f t,d,K=>XA t d λcs=>K [.fn f cs]
 | .nptr t,d,K=>K [.nptr t d]
 | .mp k v,d,K=>K [.mp k v d]
 | .pair _ _,d,K=>ZT d λx y=>XA _ x λc1=>XA _ y λc2=>ZnV c1 c2 K
theorem Y0:∀ (t:Ty) (d:t.den) (K:List SV->Prop),XA t d K=K (ZcL t d)
 | .int _,_,_=>rfl
 | .bool,_,_=>rfl
 | .str,_,_=>rfl
 | .sl _,_,_=>rfl
 | .unit,_,_=>rfl
 | .ptr t,d,K=>by simp[XA,ZcL,Y0 t]
 | .fn f t,d,K=>by simp[XA,ZcL,Y0 t]
 | .nptr t,d,K=>rfl
 | .mp k v,d,K=>rfl
 | .pair a b,d,K=>by simp[XA,ZcL,Qm,Y0 a,Y0 b,Jc]
def ZfR {α:Type} (d:List α) (i:Int) (K:α->Prop):Prop:=0<=i/\i<(d.length:Int)/\∀ x,d[i.toNat]?=some x->K x
def ZiD:Value->Option SV
 | .int k n=>some (.int k n)
 | .bool b=>some (.blit b)
 | .string s=>some (.str s.data.toList)
 | .slice none 0 0=>some .nsl
 | .pointer none=>some .nilp
 | .map none=>some (.mp .unit .unit [])
 | _=>none
theorem Zj8 (E:Env) (v:Value) (s:SV) (h:ZiD v=some s):den E s v:=by
 unfold ZiD at h;split at h<;>simp at h<;>subst h<;>simp[den,rep]
def Zde:List Value->Option (List SV)
 | []=>some []
 | v::r=>match ZiD v,Zde r with
  | some s,some l=>some (s::l)
  | _,_=>none
theorem ZeW (E:Env):∀ (vs:List Value) (cs:List SV),Zde vs=some cs->ZW E cs vs
 | [],cs,h=>by simp[Zde] at h;subst h;trivial
 | v::r,cs,h=>by
  simp only[Zde] at h;split at h
  ·rename_i s l h1 h2
   simp at h;subst h;exact ⟨Zj8 E v s h1,ZeW E r l h2⟩
  ·simp at h
def Zq7 (v:Value) (K:SV->Prop):Prop :=
 match v with
 | .agg cs=>match Zde cs.toList with
  | some l=>K (.agg l)
  | none=>False
 | v=>match ZiD v with
  | some s=>K s
  | none=>False
theorem Zq8 (E:Env) (v:Value) (K:SV->Prop) (h:Zq7 v K):∃ s,den E s v/\K s:=by
 unfold Zq7 at h;split at h
 ·rename_i cs
  split at h
  ·rename_i l hl
   exact ⟨.agg l,by simp only[den];exact ⟨cs.toList,by simp,ZeW E _ _ hl⟩,h⟩
  ·exact h.elim
 ·split at h
  ·rename_i s hs;exact ⟨s,Zj8 E _ s hs,h⟩
  ·exact h.elim
def Zme (v:Value) (K:List SV->Prop):Prop :=
 match Zde v.cells.toList with
 | some l=>K l
 | none=>False
theorem Zdc (E:Env) (v:Value) (K:List SV->Prop) (h:Zme v K):∃ l,ZW E l v.cells.toList/\K l:=by
 unfold Zme at h;split at h
 ·rename_i l hl;exact ⟨l,ZeW E _ _ hl,h⟩
 ·exact h.elim
def QK (regs:List SV) (o:Operand) (K:SV->Prop):Prop :=
 match o with
 | .tmp t=>Zkk regs t K
 | .const v=>Zq7 v K
 | .func f=>K (.fn f [])
 | .global g=>K (.gptr g)
theorem Z8 {E:Env} {regs:List SV} {a:Act} (hd:ZW E regs a.tmps.toList) {o:Operand} {K:SV->Prop} (h:QK regs o K):∃ s,den E s (a.eval o)/\K s:=by
 cases o with
 | tmp t =>
  obtain ⟨s,v,h1,h2,h3,_⟩:=Jv _ _ hd h;refine ⟨s,?_,h3⟩;have:a.eval (.tmp t)=v:=by
   have h1':a.tmps[t]?=some v:=by simpa using h1
   simp[Act.eval,h1']
  rw[this];exact h2
 | const v=>exact Zq8 E v K h
 | func f=>exact ⟨_,by simp only[den];exact ⟨[],by simp[Act.eval],trivial⟩,h⟩
 | global g=>exact ⟨_,by simp only[den];rfl,h⟩
def SV.one:SV->Bool
 | .bot=>false
 | .agg _=>false
 | .tup _=>false
 | _=>true
theorem Zgl {E:Env} {s:SV} {v:Value} (h:den E s v) (h1:s.one=true):v.cells=#[v]/\v.oneCell'=true:=by
 cases s<;>simp[SV.one] at h1<;>simp only[den] at h
 case int=>subst h;exact ⟨rfl,rfl⟩
 case bool=>subst h;exact ⟨rfl,rfl⟩
 case blit=>subst h;exact ⟨rfl,rfl⟩
 case str=>subst h;exact ⟨rfl,rfl⟩
 case sl=>obtain ⟨a,c,e,_⟩:=h;simp at e;subst e;exact ⟨rfl,rfl⟩
 case nsl=>subst h;exact ⟨rfl,rfl⟩
 case ptr=>obtain ⟨b,_,e⟩:=h;subst e;exact ⟨rfl,rfl⟩
 case own=>obtain ⟨_,a,n,c,e⟩:=h;subst e;exact ⟨rfl,rfl⟩
 case oep=>obtain ⟨b,bo,n,c,_,e⟩:=h;subst e;exact ⟨rfl,rfl⟩
 case fptr=>obtain ⟨p,vs,e,_⟩:=h;subst e;exact ⟨rfl,rfl⟩
 case fn=>obtain ⟨vs,e,_⟩:=h;subst e;exact ⟨rfl,rfl⟩
 case nilp=>subst h;exact ⟨rfl,rfl⟩
 case gptr=>subst h;exact ⟨rfl,rfl⟩
 case nptr=>rcases h with ⟨_,e⟩ | ⟨_,_,_,_,e,_⟩<;>simp at e<;>subst e<;>exact ⟨rfl,rfl⟩
 case mown=>obtain ⟨_,b,e⟩:=h;subst e;exact ⟨rfl,rfl⟩
 case mp=>rcases h with ⟨_,e⟩ | ⟨_,_,_,e,_⟩<;>simp at e<;>subst e<;>exact ⟨rfl,rfl⟩
def SV.cells:SV->List SV
 | .agg cs=>cs
 | s=>[s]
def SV.whole:SV->Bool
 | .agg _=>true
 | s=>s.one
def ZmN:List SV->Bool
 | []=>true
 | s::r=>s.one&&ZmN r
theorem QX {E:Env} {s:SV} {v:Value} (h:den E s v) (hw:s.whole=true):ZW E s.cells v.cells.toList:=by
 by_cases h1:s.one=true
 ·have:=(Zgl h h1).1
  rw[this];cases s<;>simp[SV.one] at h1<;>exact ⟨h,trivial⟩
 ·cases s<;>simp[SV.one] at h1<;>simp[SV.whole,SV.one] at hw
  case agg cs =>
   simp only[den] at h;obtain ⟨vs,rfl,h2⟩:=h;simpa[SV.cells,Value.cells] using h2
theorem ZdR {E:Env}:∀ (cs:List SV) (vs:List Value),ZW E cs vs->ZmN cs=true->∀ v∈vs,v.oneCell'=true
 | [],[],_,_,v,hv=>by simp at hv
 | c::cs,v0::vs,h,h1,v,hv=>by
  simp only[ZW] at h;simp only[ZmN,Bool.and_eq_true] at h1;rcases List.mem_cons.1 hv with rfl | hv
  ·exact (Zgl h.1 h1.1).2
  ·exact ZdR cs vs h.2 h1.2 v hv
 | [],_::_,h,_,_,_=>by simp[ZW] at h
 | _::_,[],h,_,_,_=>by simp[ZW] at h
def ZuG {k' v' k v:Ty} (hk:k'=k) (hv:v'=v) (d:List (k'.den×v'.den)) (K:List (k.den×v.den)->Prop):Prop :=
 Eq.rec (motive:=λk _=>(List (k.den×v.den)->Prop)->Prop) (λK=>Eq.rec (motive:=λv _=>(List (k'.den×v.den)->Prop)->Prop) (λK=>K d) hv K) hk K
def Y4:(t:Ty)->List SV->(t.den->List SV->Prop)->Prop
 | .int k,cs,K=>match cs with
  | .int k' n::r=>if k'=k then K n r else False
  | _=>False
 | .bool,cs,K=>match cs with
  | .bool b::r=>K b r
  | .blit b::r=>K b r
  | _=>False
 | .str,cs,K=>match cs with
  | .str s::r=>K s r
  | _=>False
 | .sl t,cs,K=>match cs with
  | .sl t' d::r=>if h:t'=t then Zqh h d λd'=>K d' r else False
  | .nsl::r=>K [] r
  | _=>False
 | .unit,cs,K=>K () cs
 | .ptr t,cs,K=>match cs with
  | .fptr cs'::r=>Y4 t cs' λx _=>K x r
  | .nptr t' d::r=>if h:t'=t then ZtP h d λd'=>∃ x,d'=some x/\K x r else False
  | _=>False
 | .nptr t,cs,K=>match cs with
  | .nptr t' d::r=>if h:t'=t then ZtP h d λd'=>K d' r else False
  | .nilp::r=>K none r
  | .fptr cs'::r=>Y4 t cs' λx _=>K (some x) r
  | _=>False
 | .mp k v,cs,K=>match cs with
  | .mp k' v' d::r=>if h:k'=k then (if h':v'=v then ZuG h h' d λd'=>K d' r else False) else False
  | _=>False
 | .fn f t,cs,K=>match cs with
  | .fn f' cs'::r=>if f'=f then Y4 t cs' λx r'=>match r' with
    | []=>K x r
    | _=>False
   else False
  | _=>False
 | .pair a b,cs,K=>Y4 a cs λx r=>Y4 b r λy r'=>K (x,y) r'
theorem YQ {E:Env}:∀ (t:Ty) (cs:List SV) (K:t.den->List SV->Prop) (vs:List Value),ZW E cs vs->Y4 t cs K->
  ∃ d r v1 v2,vs=v1++v2/\rep E.S E.w t d v1/\ZW E r v2/\K d r
 | .int k,cs,K,vs,hd,h=>by
  simp only[Y4] at h;split at h
  ·rename_i k' n r
   split at h
   ·rename_i e;subst e
    match vs,hd with
    | v::vs,hd=>simp only[ZW,den] at hd;exact ⟨n,r,[v],vs,rfl,by rw[hd.1];rfl,hd.2,h⟩
    | [],hd=>simp[ZW] at hd
   ·exact h.elim
  ·exact h.elim
 | .bool,cs,K,vs,hd,h=>by
  simp only[Y4] at h;split at h
  ·rename_i b r
   match vs,hd with
   | v::vs,hd=>simp only[ZW,den] at hd;exact ⟨b,r,[v],vs,rfl,by rw[hd.1];rfl,hd.2,h⟩
   | [],hd=>simp[ZW] at hd
  ·rename_i b r
   match vs,hd with
   | v::vs,hd=>simp only[ZW,den] at hd;exact ⟨b,r,[v],vs,rfl,by rw[hd.1];rfl,hd.2,h⟩
   | [],hd=>simp[ZW] at hd
  ·exact h.elim
 | .str,cs,K,vs,hd,h=>by
  simp only[Y4] at h;split at h
  ·rename_i b r
   match vs,hd with
   | v::vs,hd=>simp only[ZW,den] at hd;exact ⟨b,r,[v],vs,rfl,by rw[hd.1];rfl,hd.2,h⟩
   | [],hd=>simp[ZW] at hd
  ·exact h.elim
 | .sl t,cs,K,vs,hd,h=>by
  simp only[Y4] at h;split at h
  ·rename_i t' d r
   split at h
   ·rename_i e;subst e
    match vs,hd with
    | v::vs,hd=>simp only[ZW,den] at hd;exact ⟨d,r,[v],vs,rfl,hd.1,hd.2,h⟩
    | [],hd=>simp[ZW] at hd
   ·exact h.elim
  ·rename_i r
   match vs,hd with
   | v::vs,hd=>simp only[ZW,den] at hd;exact ⟨[],r,[v],vs,rfl,by rw[hd.1];exact ⟨none,0,rfl,Nat.le_refl _,λ_=>rfl,.inl rfl⟩,hd.2,h⟩
   | [],hd=>simp[ZW] at hd
  ·exact h.elim
 | .unit,cs,K,vs,hd,h=>⟨(),cs,[],vs,rfl,rfl,hd,h⟩
 | .ptr t,cs,K,vs,hd,h=>by
  simp only[Y4] at h;split at h
  ·rename_i cs' r
   match vs,hd with
   | v::vs,hd =>
    simp only[ZW,den] at hd;obtain ⟨⟨p,xs,e,hp,hS,hx,hd1⟩,hd2⟩:=hd;obtain ⟨d,r',v1,v2,e1,h1,h2,h3⟩:=YQ t cs' _ xs hd1 h;exact ⟨d,r,[v],vs,rfl,⟨p,v1,by rw[e],hp,hS,λj u hu=>hx j u (by
     grind),h1⟩,hd2,h3⟩
   | [],hd=>simp[ZW] at hd
  ·rename_i t' d r
   split at h
   ·rename_i e;subst e
    rw[Zpo] at h;obtain ⟨x,hx,h⟩:=h
    match vs,hd with
    | v::vs,hd =>
     simp only[ZW,den] at hd;have hx:d=some x:=hx;rcases hd.1 with ⟨e0,_⟩ | ⟨x',p,xs,e0,e,hp,hS,hc,hr⟩
     ·grind
     ·rw[hx] at e0;injection e0 with e0;subst e0
      exact ⟨x,r,[v],vs,rfl,⟨p,xs,e,hp,hS,hc,hr⟩,hd.2,h⟩
    | [],hd=>simp[ZW] at hd
   ·exact h.elim
  ·exact h.elim
 | .nptr t,cs,K,vs,hd,h=>by
  simp only[Y4] at h;split at h
  ·rename_i t' d r
   split at h
   ·rename_i e;subst e
    rw[Zpo] at h
    match vs,hd with
    | v::vs,hd=>simp only[ZW,den] at hd;grind
    | [],hd=>simp[ZW] at hd
   ·exact h.elim
  ·rename_i r
   match vs,hd with
   | v::vs,hd=>simp only[ZW,den] at hd;exact ⟨none,r,[v],vs,rfl,.inl ⟨rfl,by rw[hd.1]⟩,hd.2,h⟩
   | [],hd=>simp[ZW] at hd
  ·rename_i cs' r
   match vs,hd with
   | v::vs,hd =>
    simp only[ZW,den] at hd;obtain ⟨⟨p,xs,e,hp,hS,hx,hd1⟩,hd2⟩:=hd;obtain ⟨d,r',v1,v2,e1,h1,h2,h3⟩:=YQ t cs' _ xs hd1 h;exact ⟨some d,r,[v],vs,rfl,.inr ⟨d,p,v1,rfl,by rw[e],hp,hS,λj u hu=>hx j u (by
     grind),h1⟩,hd2,h3⟩
   | [],hd=>simp[ZW] at hd
  ·exact h.elim
 | .mp k u,cs,K,vs,hd,h=>by
  simp only[Y4] at h;split at h
  ·rename_i k' u' d r
   split at h
   ·rename_i e;subst e
    split at h
    ·rename_i e;subst e
     have h:K d r:=h
     match vs,hd with
     | v::vs,hd=>simp only[ZW,den] at hd;grind
     | [],hd=>simp[ZW] at hd
    ·exact h.elim
   ·exact h.elim
  ·exact h.elim
 | .fn f t,cs,K,vs,hd,h=>by
  simp only[Y4] at h;split at h
  ·rename_i f' cs' r
   split at h
   ·rename_i e;subst e
    match vs,hd with
    | v::vs,hd =>
     simp only[ZW,den] at hd;obtain ⟨⟨xs,e,hd1⟩,hd2⟩:=hd;obtain ⟨d,r',v1,v2,e1,h1,h2,h3⟩:=YQ t cs' _ xs hd1 h;split at h3
     ·have hv2:v2=[]:=by cases v2 with
       | nil=>rfl
       | cons=>simp[ZW] at h2
      subst hv2;rw[List.append_nil] at e1;subst e1;exact ⟨d,r,[v],vs,rfl,⟨xs,by rw[e],h1⟩,hd2,h3⟩
     ·exact h3.elim
    | [],hd=>simp[ZW] at hd
   ·exact h.elim
  ·exact h.elim
 | .pair a b,cs,K,vs,hd,h=>by
  obtain ⟨x,r,v1,v2,e1,h1,h2,h3⟩:=YQ a cs _ vs hd h;obtain ⟨y,r',v3,v4,e2,h4,h5,h6⟩:=YQ b r _ v2 h2 h3;exact ⟨(x,y),r',v1++v3,v4,by grind,⟨v1,v3,rfl,h1,h4⟩,h5,h6⟩
def ZxT (op:BinOp) (k:IntKind) (a b:Int) (K:SV->Prop):Prop :=
 match op with
 | .add=>K (.int k (k.wrap (a+b)))
 | .sub=>K (.int k (k.wrap (a-b)))
 | .mul=>K (.int k (k.wrap (a*b)))
 | .quo=>b≠0/\K (.int k (k.wrap (a.tdiv b)))
 | .rem=>b≠0/\K (.int k (a.tmod b))
 | .eql=>K (.bool (decide (a=b)))
 | .neq=>K (.bool (!decide (a=b)))
 | .lss=>K (.bool (decide (a<b)))
 | .leq=>K (.bool (decide (a<=b)))
 | .gtr=>K (.bool (decide (b<a)))
 | .geq=>K (.bool (decide (b<=a)))
 | .and=>K (.int k (bits .and k a b))
 | .or=>K (.int k (bits .or k a b))
 | .xor=>K (.int k (bits .xor k a b))
 | .andNot=>K (.int k (bits .andNot k a b))
 | _=>False
def Zwk (op:BinOp) (x y:SV) (K:SV->Prop):Prop :=
 match x,y with
 | .int k a,.int k' b=>match op with
  | .shl=>0<=b/\K (.int k (k.wrap (a*2 ^ (min b.toNat k.bits))))
  | .shr=>0<=b/\K (.int k (a.fdiv (2 ^ (min b.toNat k.bits))))
  | op=>if k=k' then ZxT op k a b K else False
 | .str a,.str b=>match op with
  | .add=>(a.length:Int)+b.length<=9223372036854775807/\K (.str (a++b))
  | .eql=>K (.bool (decide (a=b)))
  | .neq=>K (.bool (!decide (a=b)))
  | _=>False
 | _,_=>False
section
variable {P:Program}
theorem Zas {α:Type} [BEq α] [LawfulBEq α] [DecidableEq α] (a b:α):(a == b)=decide (a=b):=by
 grind
theorem Zhs {α:Type} [BEq α] [LawfulBEq α] [DecidableEq α] (a b:α):(a != b) = !decide (a=b):=by
 grind
theorem ZdU (a:List UInt8):(⟨a.toArray⟩:ByteArray).toList=a:=by
 simp_all
theorem bytes_append (a b:List UInt8):(⟨a.toArray⟩:ByteArray)++⟨b.toArray⟩=⟨(a++b).toArray⟩:=by
 apply ByteArray.ext;simp
theorem VB (E:Env) (k:IntKind) (n:Int):den E (.int k n) (.int k n):=by simp only[den]
theorem QY (E:Env) (b:Bool):den E (.bool b) (.bool b):=by simp only[den]
theorem Zpr (E:Env) (b:Bool):den E (.blit b) (.bool b):=by simp only[den]
theorem Zjp (E:Env) (s:List UInt8):den E (.str s) (.string ⟨s.toArray⟩):=by simp only[den]
theorem ZtZ {E:Env} {op:BinOp} {k:IntKind} {a b:Int} {K:SV->Prop} (h:ZxT op k a b K) (t:TypeId) :
  ∃ r s,(∀ w,(binOp op t (.int k a) (.int k b)).run P w=.ok r w)/\den E s r/\K s:=by
 cases op
 case add=>exact ⟨_,_,λw=>by simp only[binOp_add];exact rfl,VB ..,h⟩
 case sub=>exact ⟨_,_,λw=>by simp only[binOp_sub];exact rfl,VB ..,h⟩
 case mul=>exact ⟨_,_,λw=>by simp only[binOp_mul];exact rfl,VB ..,h⟩
 case quo=>exact ⟨_,_,λw=>by rw[binOp_quo,Op.intDiv,if_neg h.1];exact rfl,VB ..,h.2⟩
 case rem=>exact ⟨_,_,λw=>by rw[binOp_rem,Op.intDiv,if_neg h.1];exact rfl,VB ..,h.2⟩
 case eql=>exact ⟨_,_,λw=>by rw[binOp_eql];exact rfl,QY ..,h⟩
 case neq=>exact ⟨_,_,λw=>by rw[binOp_neq];exact rfl,QY ..,h⟩
 case lss=>exact ⟨_,_,λw=>by rw[binOp_lss];exact rfl,QY ..,h⟩
 case leq=>exact ⟨_,_,λw=>by rw[binOp_leq];exact rfl,QY ..,h⟩
 case gtr=>exact ⟨_,_,λw=>by rw[binOp_gtr];exact rfl,QY ..,h⟩
 case geq=>exact ⟨_,_,λw=>by rw[binOp_geq];exact rfl,QY ..,h⟩
 case and=>exact ⟨_,_,λw=>by rw[binOp_and,intBits_and];exact rfl,VB ..,h⟩
 case or=>exact ⟨_,_,λw=>by rw[binOp_or,intBits_or];exact rfl,VB ..,h⟩
 case xor=>exact ⟨_,_,λw=>by rw[binOp_xor,intBits_xor];exact rfl,VB ..,h⟩
 case andNot=>exact ⟨_,_,λw=>by rw[binOp_andNot,intBits_andNot];exact rfl,VB ..,h⟩
 all_goals exact h.elim
theorem ZtL {E:Env} {op:BinOp} {x y:SV} {K:SV->Prop} (h:Zwk op x y K) {u v:Value} (hu:den E x u) (hv:den E y v) (t:TypeId) (ox oy:Operand) :
  ∃ r s,(∀ w,((do eqGuard op t ox oy u v;binOp op t u v:Sem Value)).run P w=.ok r w)/\den E s r/\K s:=by
 unfold Zwk at h;split at h
 ·rename_i k a k' b
  simp only[den] at hu hv;subst hu;subst hv;have hg:eqGuard op t ox oy (.int k a) (.int k' b)=pure ():=eqGuard_at_int ..;rw[hg,pure_bind];split at h
  ·have:¬b<0:=by omega
   exact ⟨_,_,λw=>by rw[binOp_shl,Op.shift,if_neg this];exact rfl,VB ..,h.2⟩
  ·have:¬b<0:=by omega
   exact ⟨_,_,λw=>by rw[binOp_shr,Op.shift,if_neg this];exact rfl,VB ..,h.2⟩
  ·split at h
   ·rename_i e;subst e
    exact ZtZ h t
   ·exact h.elim
 ·rename_i a b
  simp only[den] at hu hv;subst hu;subst hv;have hg:eqGuard op t ox oy (.string ⟨a.toArray⟩) (.string ⟨b.toArray⟩)=pure ():=eqGuard_at_string ..;rw[hg,pure_bind];split at h
  ·have hl:¬((((⟨a.toArray⟩:ByteArray).size+(⟨b.toArray⟩:ByteArray).size:Nat):Int) > IntKind.i64.max):=by
    have h1:(⟨a.toArray⟩:ByteArray).size=a.length:=by simp[ByteArray.size]
    have h2:(⟨b.toArray⟩:ByteArray).size=b.length:=by simp[ByteArray.size]
    simp_all
   exact ⟨_,_,λw=>by simp only[binOp,Op.stringOp,if_neg hl,bytes_append];exact rfl,Zjp ..,h.2⟩
  ·exact ⟨_,_,λw=>by simp only[binOp,Op.stringOp,ZdU,Zas,Zhs];exact rfl,QY ..,h⟩
  ·exact ⟨_,_,λw=>by simp only[binOp,Op.stringOp,ZdU,Zas,Zhs];exact rfl,QY ..,h⟩
  ·exact h.elim
 ·exact h.elim
def unK (op:UnOp) (x:SV) (K:SV->Prop):Prop :=
 match op,x with
 | .neg,.int k n=>K (.int k (k.wrap (0-n)))
 | .not,.bool b=>K (.bool (!b))
 | .not,.blit true=>K (.blit false)
 | .not,.blit false=>K (.blit true)
 | _,_=>False
theorem ZvR {E:Env} {op:UnOp} {x:SV} {K:SV->Prop} (h:unK op x K) {u:Value} (hu:den E x u) :
  ∃ r s,(∀ w,(Op.unary op u).run P w=.ok r w)/\den E s r/\K s:=by
 unfold unK at h;split at h
 ·simp only[den] at hu;subst hu;exact ⟨_,_,λ_=>rfl,VB ..,h⟩
 ·simp only[den] at hu;subst hu;exact ⟨_,_,λ_=>rfl,QY ..,h⟩
 ·simp only[den] at hu;subst hu;exact ⟨_,_,λ_=>rfl,Zpr ..,h⟩
 ·simp only[den] at hu;subst hu;exact ⟨_,_,λ_=>rfl,Zpr ..,h⟩
 ·exact h.elim
end
section
variable {P:Program}
theorem ZaH.info' {T:TypeId} {ti:TI} (h:ZaH P T ti):∃ i,P.info? T=some i/\i.size=ti.size/\i.bytes=ti.bytes/\i.zero=some ti.zero:=by
 have:=h.info;cases hi:P.info? T with
 | none=>simp[hi] at this
 | some i=>simp[hi] at this;exact ⟨i,rfl,this.1,this.2.1,this.2.2⟩
theorem ZaH.get {T:TypeId} {ti:TI} (h:ZaH P T ti):∃ d,P.underlying T=some d/\ZqQ d=ti.kind:=by
 have:=h.kind;cases hd:P.underlying T with
 | none=>simp[hd] at this
 | some d=>exact ⟨d,rfl,by simpa[hd] using this⟩
theorem ZaH.slice {T:TypeId} {ti:TI} (h:ZaH P T ti) (hk:ti.kind=.sl) :
  P.underlying T=some (.slice ti.elem)/\(P.underlying ti.elem).map ZeS=some ti.eagg/\∃ i,P.info? ti.elem=some i/\i.size=ti.esize/\i.bytes=ti.ebytes/\i.zero=some ti.ezero:=by
 obtain ⟨d,hd,hk'⟩:=h.get;rw[hk] at hk';obtain ⟨e,rfl⟩:∃ e,d=.slice e:=by cases d<;>simp[ZqQ] at hk';exact ⟨_,rfl⟩
 have:=h.elem;rw[hd,hk] at this;simp only[Option.some.injEq,Prod.mk.injEq] at this;obtain ⟨h1,h2,h3⟩:=this;subst h1;refine ⟨hd,h3,?_⟩;cases hi:P.info? ti.elem with
 | none=>simp[hi] at h2
 | some i=>simp[hi] at h2;exact ⟨i,rfl,h2.1,h2.2.1,h2.2.2⟩
theorem ZaH.array {T:TypeId} {ti:TI} (h:ZaH P T ti) {n:Nat} (hk:ti.kind=.arr n) :
  P.underlying T=some (.array n ti.elem)/\(P.underlying ti.elem).map ZeS=some ti.eagg/\∃ i,P.info? ti.elem=some i/\i.size=ti.esize/\i.bytes=ti.ebytes/\i.zero=some ti.ezero:=by
 obtain ⟨d,hd,hk'⟩:=h.get;rw[hk] at hk';obtain ⟨e,rfl⟩:∃ e,d=.array n e:=by cases d<;>simp[ZqQ] at hk';subst hk';exact ⟨_,rfl⟩
 have:=h.elem;rw[hd,hk] at this;simp only[Option.some.injEq,Prod.mk.injEq] at this;obtain ⟨h1,h2,h3⟩:=this;subst h1;refine ⟨hd,h3,?_⟩;cases hi:P.info? ti.elem with
 | none=>simp[hi] at h2
 | some i=>simp[hi] at h2;exact ⟨i,rfl,h2.1,h2.2.1,h2.2.2⟩
theorem Zor {T:TypeId} {ti:TI} (h:ZaH P T ti) (w:World):(isAgg T).run P w=.ok ti.kind.agg w:=by
 obtain ⟨d,hd,hk⟩:=h.get;unfold isAgg;rw[Sem.run_bind,run_underlying hd,<-hk];simp only[Result.andThen_ok];cases d<;>rfl
theorem run_sizeOf {T:TypeId} {i:TypeInfo} (h:P.info? T=some i) (w:World):(sizeOf T).run P w=.ok i.size w:=by
 simp[sizeOf,typeInfo,h]
theorem Zcn {T:TypeId} {ti:TI} (h:ZaH P T ti) (w:World) (p:Addr) (vs:List Value) (hvs:∀ j u,vs[j]?=some u->w.cell? (p.add j)=some u)
  (hl:ti.kind.agg=true->vs.length=ti.size) :
  (ti.kind.agg=true->(loadVar T p).run P w=.ok (.agg vs.toArray) w)/\
  (ti.kind.agg=false->∀ u,vs[0]?=some u->(loadVar T p).run P w=.ok u w):=by
 obtain ⟨i,hi,hs,_⟩:=h.info';constructor
 ·intro ha
  unfold loadVar;rw[Sem.run_bind,Zor h,ha];simp only[Result.andThen_ok,if_true];rw[Sem.run_bind,run_sizeOf hi,Result.andThen_ok,hs,<-hl ha,Sem.run_bind,run_loadCells_list w p vs hvs];rfl
 ·intro ha u hu
  unfold loadVar;rw[Sem.run_bind,Zor h,ha];have:=hvs 0 u hu;simp only[Addr.add,if_true] at this;simp[this]
def Qb (ti:TI) (cs:List SV) (K:SV->Prop):Prop :=
 if ti.kind.agg=true then ZmJ cs ti.size λl=>if l.length=ti.size then K (.agg l) else False
 else match cs with
  | c::_=>K c
  | []=>False
theorem Zfg {E:Env} {T:TypeId} {ti:TI} (h:ZaH P T ti) (w:World) (p:Addr) {cs:List SV} {K:SV->Prop} (hk:Qb ti cs K)
  (vs:List Value) (hd:ZW E cs vs) (hvs:∀ j u,vs[j]?=some u->w.cell? (p.add j)=some u) :
  ∃ v s,Zsm P w (loadVar T p) v/\den E s v/\K s:=by
 unfold Qb at hk;split at hk
 ·rename_i ha
  rw[Zfw] at hk;split at hk
  ·rename_i hl
   have hd':=Zdo cs vs hd ti.size;have hl':=Yp _ _ hd';have h':=λw' (hst:ZnU w w')=>Zcn h w' p (vs.take ti.size) (λj u hu=>hst _ _ (hvs j u (by
    rw[List.getElem?_take] at hu;split at hu
    ·exact hu
    ·cases hu))) (λ_=>by rw[<-hl'];exact hl)
   exact ⟨_,.agg _,λw' hst=>(h' w' hst).1 ha,by simp only[den];exact ⟨_,rfl,hd'⟩,hk⟩
  ·exact hk.elim
 ·rename_i ha
  split at hk
  ·rename_i c r
   match vs,hd with
   | v::vs,hd =>
    simp only[ZW] at hd;have h':=λw' (hst:ZnU w w')=>Zcn h w' p (v::vs) (λj u hu=>hst _ _ (hvs j u hu)) (λe=>absurd e ha);exact ⟨v,c,λw' hst=>(h' w' hst).2 (by simpa using ha) v rfl,hd.1,hk⟩
   | [],hd=>simp[ZW] at hd
  ·exact hk.elim
theorem ZiA {w:World} {b:Nat} {cs:Array Value} {T:TypeId} {fr:Nat×Nat} (hh:w.heap[b]?=some (.cells cs T fr)) (off:Nat) :
  ∀ j u,(cs.toList.drop off)[j]?=some u->w.cell? ((⟨b,off,none⟩:Addr).add j)=some u:=by
 intro j u hu;rw[add_eq,cell_of_row w b (off+j) cs T fr hh];simpa using hu
def Zqs (ti:TI) (s:SV) (H:List Entry) (K:SV->Prop):Prop :=
 match s with
 | .ptr id off=>ZdW H id λe=>match e with
  | .box cells=>Zgb cells off λcs=>Qb ti cs K
  | .fbx cells=>Zgb cells off λcs=>Qb ti cs K
  | _=>False
 | .fptr cs=>Qb ti cs K
 | .oep id sz i off=>ZdW H id λe=>match e with
  | .arr _ t d=>t.size=sz/\ZfR d i λx=>XA t x λcells=>Zgb cells off λcs=>Qb ti cs K
  | .frz t d=>t.size=sz/\ZfR d i λx=>XA t x λcells=>Zgb cells off λcs=>Qb ti cs K
  | _=>False
 | _=>False
theorem ZpN {B:Base} {E:Env} {H:List Entry} (hI:Inv B E H) {T:TypeId} {ti:TI} (h:ZaH P T ti) {s:SV} {v:Value} (hs:den E s v) {K:SV->Prop} (hk:Zqs ti s H K) :
  ∃ u r,Zsm P E.w (Instr.loadAt T v) u/\den E r u/\K r:=by
 have key:∀ (p:Addr) (cs:List SV) (vs:List Value),v=.pointer (some p)->Qb ti cs K->ZW E cs vs->(∀ j u,vs[j]?=some u->E.w.cell? (p.add j)=some u)->
   ∃ u r,Zsm P E.w (Instr.loadAt T v) u/\den E r u/\K r:=by
  intro p cs vs hv hk hd hvs;obtain ⟨u,r,h1,h2,h3⟩:=Zfg h E.w p hk vs hd hvs;subst hv;exact ⟨u,r,λw' hst=>by simp only[Instr.loadAt,Instr.sureAddr,pure_bind];exact h1 w' hst,h2,h3⟩
 unfold Zqs at hk;split at hk
 ·rename_i id off
  obtain ⟨e,he,hk⟩:=Yu H hk;split at hk
  ·rename_i cells
   rw[JW] at hk;simp only[den] at hs;obtain ⟨b,h1,rfl⟩:=hs;obtain ⟨b',cs,T',h1',h2,h3⟩:=hI.ent id _ he;have:=h1.symm.trans h1';simp at this;subst this;exact key _ _ (cs.toList.drop off) rfl hk (QZ _ _ h3 off) (ZiA h2 off)
  ·rename_i cells
   rw[JW] at hk;simp only[den] at hs;obtain ⟨b,h1,rfl⟩:=hs;obtain ⟨b',cs,T',h1',_,h2,h3⟩:=hI.ent id _ he;have:=h1.symm.trans h1';simp at this;subst this;exact key _ _ (cs.toList.drop off) rfl hk (QZ _ _ h3 off) (ZiA h2 off)
  ·exact hk.elim
 ·rename_i cs
  simp only[den] at hs;obtain ⟨p,vs,rfl,hp,_,hvs,hd⟩:=hs;exact key p cs vs rfl hk hd hvs
 ·rename_i id sz i off
  obtain ⟨e,he,hk⟩:=Yu H hk;simp only[den] at hs;obtain ⟨b,bo,n,c,h1,rfl⟩:=hs;split at hk
  ·rename_i et t d
   obtain ⟨hsz,hi0,hlt',hk⟩:=hk;have hlt:i.toNat<d.length:=by omega
   obtain ⟨x,hx⟩:∃ x,d[i.toNat]?=some x:=⟨_,List.getElem?_eq_getElem hlt⟩;have hk:=hk x hx;simp only[Y0,JW] at hk;obtain ⟨v',xs,h1',h2,h3⟩:=hI.ent id _ he;have:=h1.symm.trans h1';simp at this;subst this;obtain ⟨vs,hr,hxs⟩:=Zdh (λd vs=>YV t d vs) _ _ h3 _ x hx;have hc:=h2.ZeV rfl;refine key _ _ (vs.drop off) rfl hk (QZ _ _ (YI t x vs hr) off) (λj u hu=>?_);have hu':vs[off+j]?=some u:=by simpa using hu
   have:=hc _ u (hxs _ _ hu');rw[add_eq] at this ⊢;rw[<-hsz];rw[show bo+(i.toNat*t.size+off)+j=bo+(i.toNat*t.size+(off+j)) by omega];exact this
  ·rename_i t d
   obtain ⟨hsz,hi0,hlt',hk⟩:=hk;have hlt:i.toNat<d.length:=by omega
   obtain ⟨x,hx⟩:∃ x,d[i.toNat]?=some x:=⟨_,List.getElem?_eq_getElem hlt⟩;have hk:=hk x hx;simp only[Y0,JW] at hk;obtain ⟨v',h1',h2⟩:=hI.ent id _ he;have:=h1.symm.trans h1';simp at this;subst this;obtain ⟨a,cap,e1,_,_,h3⟩:=h2;simp at e1;obtain ⟨e1,e2,e3⟩:=e1;rcases h3 with h3 | ⟨p,xs,e4,hp,_,hc,h3⟩
   ·subst h3;simp at hx
   ·rw[e4] at e1;simp at e1;subst e1
    obtain ⟨vs,hr,hxs⟩:=Zdh (λd vs=>YV t d vs) _ _ h3 _ x hx;refine key _ _ (vs.drop off) rfl hk (QZ _ _ (YI t x vs hr) off) (λj u hu=>?_);have hu':vs[off+j]?=some u:=by simpa using hu
    have:=hc _ u (hxs _ _ hu');rw[add_eq] at this ⊢;rw[<-hsz];rw[show bo+(i.toNat*t.size+off)+j=bo+(i.toNat*t.size+(off+j)) by omega];exact this
  ·exact hk.elim
 ·exact hk.elim
end
section
variable {P:Program}
def Zus:List (Nat×Nat×Bool)->Nat->(Nat->Nat->Bool->Prop)->Prop
 | [],_,_=>False
 | (o,s,g)::_,0,K=>K o s g
 | _::r,n+1,K=>Zus r n K
theorem ZnB:∀ (l:List (Nat×Nat×Bool)) {n:Nat} {K:Nat->Nat->Bool->Prop},Zus l n K->∃ o s g,l[n]?=some (o,s,g)/\K o s g
 | [],_,_,h=>h.elim
 | (o,s,g)::_,0,K,h=>⟨o,s,g,rfl,h⟩
 | _::r,n+1,K,h=>by simpa using ZnB r (n:=n) h
theorem ZaH.field {T:TypeId} {ti:TI} (h:ZaH P T ti) (hk:ti.kind=.st) {f o s:Nat} {g:Bool} (hf:ti.flds[f]?=some (o,s,g)) :
  ∃ fs,P.underlying T=some (.struct fs)/\∃ fld i d,fs[f]?=some fld/\fld.offset=o/\P.info? fld.type=some i/\i.size=s/\P.underlying fld.type=some d/\ZeS d=g:=by
 obtain ⟨d0,hd,hk'⟩:=h.get;rw[hk] at hk';obtain ⟨fs,rfl⟩:∃ fs,d0=.struct fs:=by cases d0<;>simp[ZqQ] at hk';exact ⟨_,rfl⟩
 have:=h.flds;rw[hd] at this;have h2:=congrArg (·[f]?) this;simp only[List.getElem?_map,hf,Option.map_some,Array.getElem?_toList] at h2;cases hff:fs[f]? with
 | none=>simp[hff] at h2
 | some fld =>
  simp_all
def Zjs (ti:TI) (s:SV) (f:Nat) (K:SV->Prop):Prop :=
 if ti.kind.Zv5=true then Zus ti.flds f λo sz _=>if sz=0 then False else
  match s with
  | .ptr id off=>K (.ptr id (off+o))
  | .oep id es i off=>K (.oep id es i (off+o))
  | .fptr cs=>Zgb cs o λcs'=>K (.fptr cs')
  | _=>False
 else False
theorem Znl {E:Env} {T:TypeId} {ti:TI} (h:ZaH P T ti) {s:SV} {v:Value} (hs:den E s v) {f:Nat} {K:SV->Prop} (hk:Zjs ti s f K) :
  ∃ u r,Zmg P (Instr.fieldAt T v f) u/\den E r u/\K r:=by
 unfold Zjs at hk;split at hk
 ·rename_i hst
  obtain ⟨o,sz,g,hf,hk⟩:=ZnB _ hk;split at hk
  ·exact hk.elim
  ·rename_i hsz
   have hd:ti.kind=.st:=by cases hdd:ti.kind<;>simp[TK.Zv5,hdd] at hst;rfl
   obtain ⟨fs,hu,fld,i,d,hfl,ho,hi,hs1,_,_⟩:=h.field hd hf;have key:∀ (p:Addr),v=.pointer (some p)->Zmg P (Instr.fieldAt T v f) (.pointer (some (p.add o))):=by
    intro p hv w';subst hv;have hne:¬i.size=0:=by rw[hs1];exact hsz
    simp only[Instr.fieldAt,Sem.run_bind,run_underlying hu,Result.andThen_ok,hfl,Instr.sureAddr,Sem.run_pure,fieldPlace,run_sizeOf hi,hne,if_false,ho]
   split at hk
   ·rename_i id off
    simp only[den] at hs;obtain ⟨b,h1,rfl⟩:=hs;refine ⟨_,_,key _ rfl,?_,hk⟩;simp only[den];exact ⟨b,h1,by rw[add_eq]⟩
   ·rename_i id es i' off
    simp only[den] at hs;obtain ⟨b,bo,n,c,h1,rfl⟩:=hs;refine ⟨_,_,key _ rfl,?_,hk⟩;simp only[den];exact ⟨b,bo,n,c,h1,by rw[add_eq,Nat.add_assoc,Nat.add_assoc]⟩
   ·rename_i cs
    simp only[den] at hs;obtain ⟨p,vs,rfl,hp,hS,hvs,hds⟩:=hs;rw[JW] at hk;refine ⟨_,_,key _ rfl,?_,hk⟩;simp only[den];refine ⟨p.add o,vs.drop o,rfl,Znd _ _ hp,by rw[add_block];exact hS,λj u hu=>?_,QZ _ _ hds o⟩;rw[add_add _ _ _ hp];grind
   ·exact hk.elim
 ·exact hk.elim
def Zrk (ti:TI) (s:SV) (f:Nat) (K:SV->Prop):Prop :=
 if ti.kind.Zv5=true then Zus ti.flds f λo sz g =>
  match s with
  | .agg cs=>Zgb cs o λcs'=>if g=true then ZmJ cs' sz λl=>if l.length=sz then K (.agg l) else False
   else match cs' with
    | c::_=>K c
    | []=>False
  | _=>False
 else False
theorem Zrl {E:Env} {T:TypeId} {ti:TI} (h:ZaH P T ti) {s:SV} {v:Value} (hs:den E s v) {f:Nat} {K:SV->Prop} (hk:Zrk ti s f K) :
  ∃ u r,Zmg P (Instr.field T v f) u/\den E r u/\K r:=by
 unfold Zrk at hk;split at hk
 ·rename_i hst
  obtain ⟨o,sz,g,hf,hk⟩:=ZnB _ hk;have hd:ti.kind=.st:=by cases hdd:ti.kind<;>simp[TK.Zv5,hdd] at hst;rfl
  obtain ⟨fs,hu,fld,i,d,hfl,ho,hi,hs1,hud,hag⟩:=h.field hd hf;split at hk
  ·rename_i cs
   simp only[den] at hs;obtain ⟨vs,rfl,hds⟩:=hs;rw[JW] at hk;have hds':=QZ _ _ hds o;have hpart:∀ w,(part fld.type vs.toArray fld.offset).run P w=(isAgg fld.type >>= λb=>if b then (do pure (.agg (vs.toArray.extract o (o+(<-sizeOf fld.type))))) else match vs.toArray[o]? with
     | some v=>pure v
     | none=>stuck "part: no such cell").run P w:=by intro w;rw[part,ho];rfl
   have hagg:∀ w,(isAgg fld.type).run P w=.ok g w:=by
    intro w;unfold isAgg;rw[Sem.run_bind,run_underlying hud];simp only[Result.andThen_ok,<-hag];cases d<;>rfl
   have hrun:∀ w,(Instr.field T (.agg vs.toArray) f).run P w=(part fld.type vs.toArray fld.offset).run P w:=by
    intro w;simp only[Instr.field,Sem.run_bind,run_underlying hu,Result.andThen_ok,hfl,asAgg,Sem.run_pure]
   have hfin:∀ w,(Instr.field T (.agg vs.toArray) f).run P w=(if g then (do pure (.agg (vs.toArray.extract o (o+(<-sizeOf fld.type))))) else match vs.toArray[o]? with
     | some v=>pure v
     | none=>stuck "part: no such cell" : Sem Value).run P w:=by
    simp_all
   split at hk
   ·rename_i hg
    rw[Zfw] at hk;split at hk
    ·rename_i hl
     have hds2:=Zdo _ _ hds' sz;refine ⟨.agg ((vs.drop o).take sz).toArray,_,?_,by simp only[den];grind,hk⟩;intro w';rw[hfin,if_pos hg,Sem.run_bind,run_sizeOf hi,Result.andThen_ok,hs1]
     simp_all
    ·exact hk.elim
   ·rename_i hg
    split at hk
    ·rename_i c r heq
     rw[heq] at hds';cases hvd:vs.drop o with
     | nil=>rw[hvd] at hds';simp[ZW] at hds'
     | cons v0 vr =>
      rw[hvd] at hds';simp only[ZW] at hds';refine ⟨v0,c,?_,hds'.1,hk⟩;have hv0:vs[o]?=some v0:=by
       have:=congrArg (·[0]?) hvd;simpa using this
      intro w'
      simp_all
    ·exact hk.elim
  ·exact hk.elim
 ·exact hk.elim
def ZhO:Operand->Option Nat
 | .const (.int _ n)=>match n with
  | .ofNat m=>some m
  | _=>none
 | _=>none
def Zpe (id off es:Nat):Nat->Nat->Int->(SV->Prop)->Prop
 | 0,_,_,_=>True
 | n+1,j,i,K=>(i=(j:Int)->K (.ptr id (off+j*es)))/\Zpe id off es n (j+1) i K
theorem Zm3 (id off es:Nat):∀ (n j:Nat) (i:Int) (K:SV->Prop),Zpe id off es n j i K->(j:Int)<=i->i<(j+n:Nat)->K (.ptr id (off+i.toNat*es))
 | 0,j,i,K,_,h1,h2=>by omega
 | n+1,j,i,K,h,h1,h2=>by
  by_cases e:i=(j:Int)
  ·have:=h.1 e;grind
  ·exact Zm3 id off es n (j+1) i K h.2 (by omega) (by omega)
@[irreducible] def Dead:Prop:=False
theorem Dead.no (h:Dead):False:=by unfold Dead at h;exact h
def ZsH:List (Nat×Sigma λt:Ty=>List t.den)->Nat->((t:Ty)->List t.den->Prop)->Prop
 | [],_,_=>False
 | (n,⟨t,d⟩)::r,g,K=>if n=g then K t d else ZsH r g K
theorem ZpE:∀ {l:List (Nat×Sigma λt:Ty=>List t.den)} {g:Nat} {K:(t:Ty)->List t.den->Prop},ZsH l g K->∃ p∈l,p.1=g/\K p.2.1 p.2.2
 | [],_,_,h=>h.elim
 | (n,⟨t,d⟩)::r,g,K,h=>by
  unfold ZsH at h;split at h
  ·rename_i e;exact ⟨(n,⟨t,d⟩),by simp,e,h⟩
  ·obtain ⟨q,h1,h2⟩:=ZpE h
   exact ⟨q,by simp[h1],h2⟩
def ZgD (ti:TI) (s si:SV) (ix:Operand) (H:List Entry) (K:SV->Prop):Prop :=
 match si with
 | .int _ i=>match ti.kind with
  | .sl=>match s with
   | .sl t d=>if t.size=ti.esize then ZfR d i λx=>XA t x λcells=>K (.fptr cells) else False
   | .own id=>ZdW H id λe=>match e with
    | .arr _ t d=>if t.size=ti.esize then ZfR d i λ_=>K (.oep id t.size i 0) else False
    | .frz t d=>if t.size=ti.esize then ZfR d i λx=>XA t x λcells=>K (.fptr cells) else False
    | .darr _ e d _=>if e.ty.size=ti.esize then ZfR d i λ_=>K (.oep id e.ty.size i 0) else False
    | .hole _ e d _ _ _=>if e.ty.size=ti.esize then ZfR d i λ_=>K (.oep id e.ty.size i 0) else False
    | .spl _ e d _ _=>if e.ty.size=ti.esize then ZfR d i λ_=>K (.oep id e.ty.size i 0) else False
    | .hsp _ e d _ _ _=>if e.ty.size=ti.esize then ZfR d i λ_=>K (.oep id e.ty.size i 0) else False
    | _=>False
   | .nsl=>Dead
   | _=>False
  | .arr n=>match s with
   | .ptr id off=>match ZhO ix with
    | some j=>if j<n then K (.ptr id (off+j*ti.esize)) else False
    | none=>0<=i/\i<(n:Int)/\Zpe id off ti.esize n 0 i K
   | .gptr g=>ZsH globs g λt d=>if t.size=ti.esize then if d.length=n then ZfR d i λx=>XA t x λcells=>K (.fptr cells) else False else False
   | _=>False
  | _=>False
 | _=>False
theorem run_indexAt {T e:TypeId} {i:TypeInfo} (hu:P.underlying T=some (.slice e)) (hi:P.info? e=some i) (w:World) (p:Addr) (len cap:Nat) (k:IntKind) (n:Int) (h0:0<=n) (h1:n<(len:Int)) :
  (Instr.indexAt T (.slice (some p) len cap) (.int k n)).run P w=.ok (.pointer (some (p.add (n.toNat*i.size)))) w:=by
 have hc:(0<=n/\n<(len:Int)):=⟨h0,h1⟩;simp[Instr.indexAt,asIntOf,run_underlying hu,hc,run_sizeOf hi]
theorem Zgq {T e:TypeId} {m:Nat} {i:TypeInfo} (hu:P.underlying T=some (.array m e)) (hi:P.info? e=some i) (w:World) (p:Addr) (k:IntKind) (n:Int) (h0:0<=n) (h1:n<(m:Int)) :
  (Instr.indexAt T (.pointer (some p)) (.int k n)).run P w=.ok (.pointer (some (p.add (n.toNat*i.size)))) w:=by
 have hc:(0<=n/\n<(m:Int)):=⟨h0,h1⟩;simp[Instr.indexAt,asIntOf,run_underlying hu,hc,run_sizeOf hi,Instr.sureAddr]
theorem ZoS {E:Env} {t:Ty} {d:List t.den} {v:Value} (h:rep E.S E.w (.sl t) d [v]) {i:Nat} {x:t.den} (hx:d[i]?=some x) :
  ∃ p cap vs,v=.slice (some p) d.length cap/\p.spot=none/\E.S p.block/\rep E.S E.w t x vs/\∀ j u,vs[j]?=some u->E.w.cell? ((p.add (i*t.size)).add j)=some u:=by
 obtain ⟨a,cap,e1,_,_,h3⟩:=h;simp at e1;rcases h3 with h3 | ⟨p,xs,rfl,hp,hS,hc,h3⟩
 ·subst h3;simp at hx
 ·obtain ⟨vs,hr,hxs⟩:=Zdh (λd vs=>YV t d vs) _ _ h3 _ x hx
  refine ⟨p,cap,vs,e1,hp,hS,hr,λj u hu=>?_⟩;rw[add_add _ _ _ hp];grind
theorem ZcX {B:Base} {E:Env} {H:List Entry} (hI:Inv B E H) {T:TypeId} {ti:TI} (h:ZaH P T ti) {s si:SV} {v vi:Value} (hs:den E s v) (hsi:den E si vi) {ix:Operand}
  {K:SV->Prop} (hk:ZgD ti s si ix H K) (hix:∀ j,ZhO ix=some j->∀ k i,si=.int k i->i=(j:Int)) :
  ∃ u r,Zmg P (Instr.indexAt T v vi) u/\den E r u/\K r:=by
 unfold ZgD at hk;split at hk
 ·rename_i k i
  simp only[den] at hsi;subst hsi;split at hk
  ·rename_i hd
   obtain ⟨hu,_,inf,hi,hsz,_,_⟩:=h.slice hd;have frozen:∀ (t:Ty) (d:List t.den),t.size=ti.esize->rep E.S E.w (.sl t) d [v]->ZfR d i (λx=>XA t x λcells=>K (.fptr cells))->
     ∃ u r,Zmg P (Instr.indexAt T v (.int k i)) u/\den E r u/\K r:=by
    intro t d ht hr ⟨h0,h1,h2⟩;obtain ⟨x,hx⟩:∃ x,d[i.toNat]?=some x:=⟨_,List.getElem?_eq_getElem (by omega)⟩;have h2:=h2 x hx;simp only[Y0] at h2;obtain ⟨p,cap,vs,rfl,hp,hS,hrx,hc⟩:=ZoS hr hx;refine ⟨_,_,λw=>run_indexAt hu hi w p _ cap k i h0 h1,?_,h2⟩;simp only[den];rw[hsz,<-ht];exact ⟨_,vs,rfl,Znd _ _ hp,by rw[add_block];exact hS,hc,YI t x vs hrx⟩
   split at hk
   ·rename_i t d
    split at hk
    ·rename_i ht
     exact frozen t d ht (by simpa only[den] using hs) hk
    ·exact hk.elim
   ·rename_i id
    obtain ⟨en,he,hk⟩:=Yu H hk;simp only[den] at hs;split at hk
    ·rename_i et t d
     split at hk
     ·rename_i ht
      obtain ⟨h0,h1,hk⟩:=hk;have hk:=hk _ (List.getElem?_eq_getElem (show i.toNat<d.length by omega));obtain ⟨v',xs,e1,h2,h3⟩:=hI.ent id _ he;have:=hs.1.symm.trans e1;simp at this;subst this;rcases h2.2 with ⟨rfl,hn⟩ | ⟨g,cap,cur,o,rfl,_,hh,hc,_⟩
      ·omega
      ·refine ⟨_,_,λw=>run_indexAt hu hi w _ _ cap k i h0 h1,?_,hk⟩
       simp only[den];exact ⟨g,o,_,cap,e1,by rw[add_eq,hsz,ht];simp⟩
     ·exact hk.elim
    ·rename_i t d
     split at hk
     ·rename_i ht
      obtain ⟨v',e1,h2⟩:=hI.ent id _ he;grind
     ·exact hk.elim
    ·rename_i et e d fp
     split at hk
     ·rename_i ht
      obtain ⟨h0,h1,hk⟩:=hk;have hk:=hk _ (List.getElem?_eq_getElem (show i.toNat<d.length by omega));obtain ⟨v',xs,fps,e1,h2,h3⟩:=hI.ent id _ he;have:=hs.1.symm.trans e1;simp at this;subst this;rcases h2.2 with ⟨rfl,hn⟩ | ⟨g,cap,cur,o,rfl,_,hh,hc,_⟩
      ·omega
      ·refine ⟨_,_,λw=>run_indexAt hu hi w _ _ cap k i h0 h1,?_,hk⟩
       simp only[den];exact ⟨g,o,_,cap,e1,by rw[add_eq,hsz,ht];simp⟩
     ·exact hk.elim
    ·rename_i et e d j cs fp
     split at hk
     ·rename_i ht
      obtain ⟨h0,h1,hk⟩:=hk;have hk:=hk _ (List.getElem?_eq_getElem (show i.toNat<d.length by omega));obtain ⟨v',xs,x1,vx,x2,f1,f2,e1,h2,h3⟩:=hI.ent id _ he;have:=hs.1.symm.trans e1;simp at this;subst this;rcases h2.2 with ⟨rfl,hn⟩ | ⟨g,cap,cur,o,rfl,_,hh,hc,_⟩
      ·omega
      ·refine ⟨_,_,λw=>run_indexAt hu hi w _ _ cap k i h0 h1,?_,hk⟩
       simp only[den];exact ⟨g,o,_,cap,e1,by rw[add_eq,hsz,ht];simp⟩
     ·exact hk.elim
    ·rename_i et e d n fp
     split at hk
     ·rename_i ht
      obtain ⟨h0,h1,hk⟩:=hk;have hk:=hk _ (List.getElem?_eq_getElem (show i.toNat<d.length by omega));obtain ⟨v',e1,⟨xs,x1,x2,f1,h2,h3⟩,_⟩:=hI.ent id _ he;have:=hs.1.symm.trans e1;simp at this;subst this;rcases h2.2 with ⟨rfl,hn⟩ | ⟨g,cap,cur,o,rfl,_,hh,hc,_⟩
      ·omega
      ·refine ⟨_,_,λw=>run_indexAt hu hi w _ _ cap k i h0 h1,?_,hk⟩
       simp only[den];exact ⟨g,o,_,cap,e1,by rw[add_eq,hsz,ht];simp⟩
     ·exact hk.elim
    ·rename_i et e d j cs fp
     split at hk
     ·rename_i ht
      obtain ⟨h0,h1,hk⟩:=hk;have hk:=hk _ (List.getElem?_eq_getElem (show i.toNat<d.length by omega));obtain ⟨v',xs,x1,vx,x2,f1,e1,h2,h3⟩:=hI.ent id _ he;have:=hs.1.symm.trans e1;simp at this;subst this;rcases h2.2 with ⟨rfl,hn⟩ | ⟨g,cap,cur,o,rfl,_,hh,hc,_⟩
      ·omega
      ·refine ⟨_,_,λw=>run_indexAt hu hi w _ _ cap k i h0 h1,?_,hk⟩
       simp only[den];exact ⟨g,o,_,cap,e1,by rw[add_eq,hsz,ht];simp⟩
     ·exact hk.elim
    ·exact hk.elim
   ·exact hk.no.elim
   ·exact hk.elim
  ·rename_i n hd
   obtain ⟨hu,_,inf,hi,hsz,_,_⟩:=h.array hd;split at hk
   ·rename_i id off
    simp only[den] at hs;obtain ⟨b,h1,rfl⟩:=hs;have fin:0<=i->i<(n:Int)->K (.ptr id (off+i.toNat*ti.esize))->∃ u r,Zmg P (Instr.indexAt T (.pointer (some ⟨b,off,none⟩)) (.int k i)) u/\den E r u/\K r:=by
     intro h0 h2 hk;refine ⟨_,_,λw=>Zgq hu hi w _ k i h0 h2,?_,hk⟩;simp only[den];exact ⟨b,h1,by rw[add_eq,hsz]⟩
    split at hk
    ·grind
    ·obtain ⟨h0,h2,hk⟩:=hk
     exact fin h0 h2 (Zm3 id off ti.esize n 0 i K hk (by omega) (by omega))
   ·rename_i g
    simp only[den] at hs;subst hs;obtain ⟨⟨g',t,d⟩,hp,hg,hk2⟩:=ZpE hk;clear hk;have hg:g'=g:=hg;subst hg;have hk:if t.size=ti.esize then if d.length=n then ZfR d i λx=>XA t x λcells=>K (.fptr cells) else False else False:=hk2;split at hk
    ·rename_i ht
     split at hk
     ·rename_i hn
      obtain ⟨h0,h1,hk⟩:=hk;obtain ⟨x,hx⟩:∃ x,d[i.toNat]?=some x:=⟨_,List.getElem?_eq_getElem (by omega)⟩;have h2:=hk x hx;simp only[Y0] at h2;obtain ⟨hS,xs,hr,_,hc⟩:=hI.glob _ hp;obtain ⟨vs,hrx,hvs⟩:=Zdh (λd vs=>YV t d vs) _ _ hr _ x hx;refine ⟨_,_,λw=>Zgq hu hi w _ k i h0 (by omega),?_,h2⟩;simp only[den];refine ⟨_,vs,rfl,by rw[add_eq],by rw[add_block];exact hS,λj u hu=>?_,YI t x vs hrx⟩;rw[add_eq,add_eq,hsz,<-ht];grind
     ·exact hk.elim
    ·exact hk.elim
   ·exact hk.elim
  ·exact hk.elim
 ·exact hk.elim
end
def Zt1 (a b:SV) (K:Bool->Prop):Prop :=
 match a,b with
 | .int k x,.int k' y=>if k=k' then K (decide (x=y)) else False
 | _,_=>False
def Zt2 (a b:SV) (K:Bool->Prop):Prop :=
 match a,b with
 | .str x,.str y=>K (decide (x=y))
 | _,_=>False
def ZsM (a b:SV) (K:Bool->Prop):Prop :=
 match a,b with
 | .bool x,.bool y=>K (x == y)
 | .bool x,.blit true=>K x
 | .blit true,.bool x=>K x
 | .bool x,.blit false=>K (!x)
 | .blit false,.bool x=>K (!x)
 | .blit x,.blit y=>K (x == y)
 | _,_=>False
def eqF:EqD->List SV->List SV->(Bool->Prop)->Prop
 | .nil,_,_,K=>K true
 | .int _ o r,xs,ys,K=>Zkk xs o λa=>Zkk ys o λb=>Zt1 a b λp=>match r with
  | .nil=>K p
  | r=>eqF r xs ys λq=>K (p&&q)
 | .bool o r,xs,ys,K=>Zkk xs o λa=>Zkk ys o λb=>ZsM a b λp=>match r with
  | .nil=>K p
  | r=>eqF r xs ys λq=>K (p&&q)
 | .str o r,xs,ys,K=>Zkk xs o λa=>Zkk ys o λb=>Zt2 a b λp=>match r with
  | .nil=>K p
  | r=>eqF r xs ys λq=>K (p&&q)
 | .st o sz fs r,xs,ys,K=>Zgb xs o λx1=>ZmJ x1 sz λx2=>Zgb ys o λy1=>ZmJ y1 sz λy2=>eqF fs x2 y2 λp=>match r with
  | .nil=>K p
  | r=>eqF r xs ys λq=>K (p&&q)
def EqD.depth:EqD->Nat
 | .nil=>0
 | .int _ _ r=>max 1 r.depth
 | .bool _ r=>max 1 r.depth
 | .str _ r=>max 1 r.depth
 | .st _ _ fs r=>max (fs.depth+1) r.depth
def eqK (op:BinOp) (ti:TI) (x y:SV) (K:SV->Prop):Prop :=
 match x,y with
 | .agg xs,.agg ys=>if ti.eqd.isNil=true then False else if ti.eqd.depth<=1000 then eqF ti.eqd xs ys λp=>match op with
  | .eql=>K (.bool p)
  | .neq=>K (.bool (!p))
  | _=>False else False
 | x,y=>match ti.kind with
  | .bool=>ZsM x y λp=>match op with
   | .eql=>K (.bool p)
   | .neq=>K (.bool (!p))
   | _=>False
  | _=>False
section
variable {P:Program}
theorem Zbx {t:TypeId} {d:TypeDesc} (hd:P.underlying t=some d) (ha:ZeS d=false) {cs:Array Value} {o:Nat} {v:Value} (hv:cs[o]?=some v) (w:World):(part t cs o).run P w=.ok v w:=by
 have hagg:(isAgg t).run P w=.ok false w:=by
  unfold isAgg;rw[Sem.run_bind,run_underlying hd];simp only[Result.andThen_ok,<-ha];cases d<;>rfl
 rw[part,Sem.run_bind,hagg,Result.andThen_ok];simp[hv]
theorem Zp0 {t:TypeId} {d:TypeDesc} (hd:P.underlying t=some d) (ha:ZeS d=true) {sz:Nat} (hs:(P.info? t).map (·.size)=some sz) {us:List Value} {o:Nat} (w:World) :
  (part t us.toArray o).run P w=.ok (.agg ((us.drop o).take sz).toArray) w:=by
 have hagg:(isAgg t).run P w=.ok true w:=by
  unfold isAgg;rw[Sem.run_bind,run_underlying hd];simp only[Result.andThen_ok,<-ha];cases d<;>rfl
 obtain ⟨i,hi,hsz⟩:=Option.map_eq_some_iff.1 hs;rw[part,Sem.run_bind,hagg,Result.andThen_ok,if_pos rfl,Sem.run_bind,run_sizeOf hi,Result.andThen_ok,hsz]
 simp_all
theorem Zgi {k:IntKind} {t:TypeId} (h:ZpI k (P.underlying t)=true):P.underlying t=some (.int k):=by
 unfold ZpI at h;grind
theorem Zjx {t:TypeId} (h:Znr (P.underlying t)=true):P.underlying t=some .bool:=by
 unfold Znr at h;grind
theorem Zlr {t:TypeId} (h:ZpJ (P.underlying t)=true):P.underlying t=some .string:=by
 unfold ZpJ at h;grind
theorem ZsN {E:Env} {a b:SV} {u v:Value} (hu:den E a u) (hv:den E b v) {K:Bool->Prop} (hk:Zt1 a b K) {t:TypeId} {k:IntKind} (ht:P.underlying t=some (.int k)) :
  ∃ p,K p/\∀ m w,(Op.equalIn (m+1) t u v).run P w=.ok p w:=by
 unfold Zt1 at hk;split at hk
 ·rename_i k1 x k2 y
  simp only[den] at hu hv;subst hu;subst hv;split at hk
  ·rename_i e;subst e
   exact ⟨_,hk,λm w=>by rw[run_equalIn_int w m t k1 k x y ht,Zas]⟩
  ·exact hk.elim
 ·exact hk.elim
theorem ZsO {E:Env} {a b:SV} {u v:Value} (hu:den E a u) (hv:den E b v) {K:Bool->Prop} (hk:Zt2 a b K) {t:TypeId} (ht:P.underlying t=some .string) :
  ∃ p,K p/\∀ m w,(Op.equalIn (m+1) t u v).run P w=.ok p w:=by
 unfold Zt2 at hk;split at hk
 ·simp only[den] at hu hv;subst hu;subst hv
  exact ⟨_,hk,λm w=>by rw[run_equalIn_string w m t _ _ ht,ZdU,ZdU,Zas]⟩
 ·exact hk.elim
theorem ZpL {E:Env} {a b:SV} {u v:Value} (hu:den E a u) (hv:den E b v) {K:Bool->Prop} (hk:ZsM a b K) :
  ∃ x y,u=.bool x/\v=.bool y/\K (x == y):=by
 unfold ZsM at hk;split at hk<;>(try simp only[den] at hu hv)
 all_goals simp_all
theorem Zbh {n:Nat} {xs ys:Array Value} {f:Field} {fl:List Field} (hn:f.name≠ "_") {a b:Value} {p q:Bool} {w:World} (ha:(part f.type xs f.offset).run P w=.ok a w)
  (hb:(part f.type ys f.offset).run P w=.ok b w) (he:(Op.equalIn n f.type a b).run P w=.ok p w) (hr:(Op.eqFields n xs ys fl).run P w=.ok q w) :
  (Op.eqFields n xs ys (f::fl)).run P w=.ok (p&&q) w:=by
 rw[Op.eqFields,if_pos hn,Sem.run_bind,ha,Result.andThen_ok,Sem.run_bind,hb,Result.andThen_ok,Sem.run_bind,he,Result.andThen_ok];cases p
 ·simp
 ·simp[hr]
theorem Zpw {r:EqD} {fl:List Field} (hf:r.fits P fl=true) {xs ys:List SV} {us vs:List Value} {K:Bool->Prop} {p:Bool} (hk:match (generalizing:=false) r with
  | .nil=>K p
  | r=>eqF r xs ys λq=>K (p&&q))
  (ih:∀ {K:Bool->Prop},eqF r xs ys K->∃ p,K p/\∀ n,r.depth<=n->∀ w,(Op.eqFields n us.toArray vs.toArray fl).run P w=.ok p w)
  {D:Nat} (hD:r.depth<=D) {f:Field} (hs:∀ q n,D<=n->∀ w,(Op.eqFields n us.toArray vs.toArray fl).run P w=.ok q w->(Op.eqFields n us.toArray vs.toArray (f::fl)).run P w=.ok (p&&q) w) :
  ∃ p,K p/\∀ n,D<=n->∀ w,(Op.eqFields n us.toArray vs.toArray (f::fl)).run P w=.ok p w:=by
 have gen:(eqF r xs ys λq=>K (p&&q))->∃ p,K p/\∀ n,D<=n->∀ w,(Op.eqFields n us.toArray vs.toArray (f::fl)).run P w=.ok p w:=by
  grind
 cases r with
 | nil =>
  simp only[EqD.fits,List.isEmpty_iff] at hf;subst hf;exact ⟨p,hk,λn hn w=>by have:=hs true n hn w rfl;simpa using this⟩
 | _=>exact gen hk
theorem ZmS {E:Env}:∀ (d:EqD) (fl:List Field),d.fits P fl=true->∀ (xs ys:List SV) (us vs:List Value),ZW E xs us->ZW E ys vs->∀ {K:Bool->Prop},eqF d xs ys K->
  ∃ p,K p/\∀ n,d.depth<=n->∀ w,(Op.eqFields n us.toArray vs.toArray fl).run P w=.ok p w
 | .nil,fl,hf,xs,ys,us,vs,hx,hy,K,hk=>by
  simp only[EqD.fits,List.isEmpty_iff] at hf;subst hf;exact ⟨true,hk,λn _ w=>rfl⟩
 | .int k o r,fl,hf,xs,ys,us,vs,hx,hy,K,hk=>by
  cases fl with
  | nil=>simp[EqD.fits] at hf
  | cons f fl =>
   simp only[EqD.fits,Bool.and_eq_true,bne_iff_ne,beq_iff_eq] at hf;obtain ⟨⟨⟨h1,h2⟩,h3⟩,h4⟩:=hf;simp only[eqF] at hk;obtain ⟨a,u,hu,hau,hk,_⟩:=Jv _ _ hx hk;obtain ⟨b,v,hv,hbv,hk,_⟩:=Jv _ _ hy hk;have hty:=Zgi h3;obtain ⟨p,hk,hp⟩:=ZsN hau hbv hk hty;refine Zpw h4 hk (λhk=>ZmS r fl h4 xs ys us vs hx hy hk) (by simp only[EqD.depth];omega) (λq n hn w hq=>?_);simp only[EqD.depth] at hn;obtain ⟨m,rfl⟩:∃ m,n=m+1:=⟨n-1,by omega⟩;exact Zbh h1 (Zbx hty rfl (by grind) w) (Zbx hty rfl (by grind) w) (hp m w) hq
 | .bool o r,fl,hf,xs,ys,us,vs,hx,hy,K,hk=>by
  cases fl with
  | nil=>simp[EqD.fits] at hf
  | cons f fl =>
   simp only[EqD.fits,Bool.and_eq_true,bne_iff_ne,beq_iff_eq] at hf;obtain ⟨⟨⟨h1,h2⟩,h3⟩,h4⟩:=hf;simp only[eqF] at hk;obtain ⟨a,u,hu,hau,hk,_⟩:=Jv _ _ hx hk;obtain ⟨b,v,hv,hbv,hk,_⟩:=Jv _ _ hy hk;have hty:=Zjx h3;obtain ⟨x,y,rfl,rfl,hk⟩:=ZpL hau hbv hk;refine Zpw h4 hk (λhk=>ZmS r fl h4 xs ys us vs hx hy hk) (by simp only[EqD.depth];omega) (λq n hn w hq=>?_);simp only[EqD.depth] at hn;obtain ⟨m,rfl⟩:∃ m,n=m+1:=⟨n-1,by omega⟩;exact Zbh h1 (Zbx hty rfl (by grind) w) (Zbx hty rfl (by grind) w) (run_equalIn_bool' w m f.type x y hty) hq
 | .str o r,fl,hf,xs,ys,us,vs,hx,hy,K,hk=>by
  cases fl with
  | nil=>simp[EqD.fits] at hf
  | cons f fl =>
   simp only[EqD.fits,Bool.and_eq_true,bne_iff_ne,beq_iff_eq] at hf;obtain ⟨⟨⟨h1,h2⟩,h3⟩,h4⟩:=hf;simp only[eqF] at hk;obtain ⟨a,u,hu,hau,hk,_⟩:=Jv _ _ hx hk;obtain ⟨b,v,hv,hbv,hk,_⟩:=Jv _ _ hy hk;have hty:=Zlr h3;obtain ⟨p,hk,hp⟩:=ZsO hau hbv hk hty;refine Zpw h4 hk (λhk=>ZmS r fl h4 xs ys us vs hx hy hk) (by simp only[EqD.depth];omega) (λq n hn w hq=>?_);simp only[EqD.depth] at hn;obtain ⟨m,rfl⟩:∃ m,n=m+1:=⟨n-1,by omega⟩;exact Zbh h1 (Zbx hty rfl (by grind) w) (Zbx hty rfl (by grind) w) (hp m w) hq
 | .st o sz fs r,fl,hf,xs,ys,us,vs,hx,hy,K,hk=>by
  cases fl with
  | nil=>simp[EqD.fits] at hf
  | cons f fl =>
   simp only[EqD.fits,Bool.and_eq_true,bne_iff_ne,beq_iff_eq] at hf;obtain ⟨⟨⟨⟨h1,h2⟩,h3⟩,h5⟩,h4⟩:=hf;split at h3
   ·rename_i gs hu
    simp only[Bool.and_eq_true,Bool.not_eq_true'] at h3;obtain ⟨h3,h6⟩:=h3;simp only[eqF,JW,Zfw] at hk;have hx2:=Zdo _ _ (QZ _ _ hx o) sz;have hy2:=Zdo _ _ (QZ _ _ hy o) sz;obtain ⟨p,hk,hp⟩:=ZmS fs gs.toList h6 _ _ _ _ hx2 hy2 hk;refine Zpw h4 hk (λhk=>ZmS r fl h4 xs ys us vs hx hy hk) (by simp only[EqD.depth];omega) (λq n hn w hq=>?_);simp only[EqD.depth] at hn;obtain ⟨m,rfl⟩:∃ m,n=m+1:=⟨n-1,by omega⟩;have hfo:P.fieldsOf f.type=gs:=by simp[Program.fieldsOf,hu]
    refine Zbh h1 (by rw[h2];exact Zp0 hu rfl h5 w) (by rw[h2];exact Zp0 hu rfl h5 w) ?_ hq;rw[run_equalIn_struct w m f.type _ _ (by rw[hfo];exact hu) h3,hfo];grind
   ·cases h3
theorem Zri {E:Env} {T:TypeId} {ti:TI} (h:ZaH P T ti) {op:BinOp} {x y:SV} {K:SV->Prop} (hk:eqK op ti x y K) {u v:Value} (hu:den E x u) (hv:den E y v) (ox oy:Operand) :
  ∃ r s,(∀ w,((do eqGuard op T ox oy u v;binOp op T u v:Sem Value)).run P w=.ok r w)/\den E s r/\K s:=by
 unfold eqK at hk;split at hk
 ·rename_i xs ys
  simp only[den] at hu hv;obtain ⟨us,rfl,hu⟩:=hu;obtain ⟨vs,rfl,hv⟩:=hv;split at hk
  ·exact hk.elim
  ·rename_i hnil
   split at hk
   ·rename_i hdep
    have he:=h.eqd;simp only[hnil,Bool.false_or] at he;split at he
    ·rename_i fs hT
     simp only[Bool.and_eq_true,Bool.not_eq_true'] at he;obtain ⟨⟨e1,e2⟩,e3⟩:=he;obtain ⟨p,hk,hp⟩:=ZmS ti.eqd fs.toList e2 xs ys us vs hu hv hk;have hfo:P.fieldsOf T=fs:=by simp[Program.fieldsOf,hT]
     have hrun:∀ w,(Op.equalIn 10000 T (.agg us.toArray) (.agg vs.toArray)).run P w=.ok p w:=by
      intro w;rw[show (10000:Nat)=9999+1 from rfl,run_equalIn_struct w 9999 T _ _ (by rw[hfo];exact hT) e1,hfo];grind
     cases op<;>first | exact hk.elim | skip
     ·exact ⟨_,_,λw=>by rw[Sem.run_bind,run_eqGuard_agg w .eql T ox oy _ _ e3,Result.andThen_ok,run_eql_struct w T,hrun w,Result.andThen_ok],QY ..,hk⟩
     ·exact ⟨_,_,λw=>by rw[Sem.run_bind,run_eqGuard_agg w .neq T ox oy _ _ e3,Result.andThen_ok,run_neq_struct w T,hrun w,Result.andThen_ok],QY ..,hk⟩
    ·cases he
   ·exact hk.elim
 ·split at hk
  ·rename_i hb
   obtain ⟨a,b,rfl,rfl,hk⟩:=ZpL hu hv hk;have hT:P.underlying T=some .bool:=by
    obtain ⟨d,hd,hk2⟩:=h.get;rw[hb] at hk2;cases d<;>simp[ZqQ] at hk2
    exact hd
   have hrun:∀ w,(Op.equal T (.bool a) (.bool b)).run P w=.ok (a == b) w:=λw=>run_equalIn_bool' w 9999 T a b hT;cases op<;>first | exact hk.elim | skip
   ·exact ⟨_,_,λw=>by simp only[eqGuard,binOp,Sem.run_bind,hrun];rfl,QY ..,hk⟩
   ·exact ⟨_,_,λw=>by simp only[eqGuard,binOp,Sem.run_bind,hrun];rfl,QY ..,hk⟩
  ·exact hk.elim
def Zi4 (op:BinOp) (b nb:SV) (K:SV->Prop):Prop :=
 match op with
 | .eql=>K b
 | .neq=>K nb
 | _=>False
def Zhz:TK->Bool
 | .ptr=>true
 | _=>false
def Zoe:TK->Bool
 | .sl=>true
 | _=>false
def Zv8 (op:BinOp) (ti:TI) (x:SV) (K:SV->Prop):Prop :=
 match x with
 | .nptr _ d=>if Zhz ti.kind=true then Zi4 op (.bool d.isNone) (.bool (!d.isNone)) K else False
 | .ptr _ _=>if Zhz ti.kind=true then Zi4 op (.blit false) (.blit true) K else False
 | .fptr _=>if Zhz ti.kind=true then Zi4 op (.blit false) (.blit true) K else False
 | .nilp=>if Zhz ti.kind=true then Zi4 op (.blit true) (.blit false) K else False
 | .nsl=>if Zoe ti.kind=true then Zi4 op (.blit true) (.blit false) K else False
 | .sl _ d=>if Zoe ti.kind=true then (d=[]->Zi4 op (.blit true) (.blit false) K)/\Zi4 op (.blit false) (.blit true) K else False
 | _=>False
theorem Za6 {T:TypeId} {u v:Value} {b:Bool} (hn:∀ w,(Op.equal T u v).run P w=.ok b w) (hu:(∃ p,u=.pointer p)\/∃ a n c,u=.slice a n c) (ox oy:Operand) {op:BinOp} {sb nb:SV} {K:SV->Prop} {E:Env}
  (hb:den E sb (.bool b)) (hnb:den E nb (.bool (!b))) (hk:Zi4 op sb nb K) :
  ∃ r s,(∀ w,((do eqGuard op T ox oy u v;binOp op T u v:Sem Value)).run P w=.ok r w)/\den E s r/\K s:=by
 unfold Zi4 at hk;rcases hu with ⟨p,rfl⟩ | ⟨a,n,c,rfl⟩
 ·split at hk
  ·exact ⟨_,_,λw=>by simp only[eqGuard,binOp,Sem.run_bind,hn];rfl,hb,hk⟩
  ·exact ⟨_,_,λw=>by simp only[eqGuard,binOp,Sem.run_bind,hn];rfl,hnb,hk⟩
  ·exact hk.elim
 ·split at hk
  ·exact ⟨_,_,λw=>by simp only[eqGuard,binOp,Sem.run_bind,hn];rfl,hb,hk⟩
  ·exact ⟨_,_,λw=>by simp only[eqGuard,binOp,Sem.run_bind,hn];rfl,hnb,hk⟩
  ·exact hk.elim
theorem Zby {T e:TypeId} (h:P.underlying T=some (.pointer e)) (p:Option Addr) (w:World):(Op.equal T (.pointer p) (.pointer none)).run P w=.ok p.isNone w:=by
 show (Op.equalIn (9999+1) T (.pointer p) (.pointer none)).run P w=_;unfold Op.equalIn;rw[Sem.run_bind,run_underlying h,Result.andThen_ok];cases p<;>rfl
theorem Zgp {T e:TypeId} (h:P.underlying T=some (.slice e)) (a:Option Addr) (n c:Nat) (w:World):(Op.equal T (.slice a n c) (.slice none 0 0)).run P w=.ok a.isNone w:=by
 show (Op.equalIn (9999+1) T (.slice a n c) (.slice none 0 0)).run P w=_;unfold Op.equalIn;rw[Sem.run_bind,run_underlying h,Result.andThen_ok];cases a<;>rfl
theorem ZrI {E:Env} {T:TypeId} {ti:TI} (h:ZaH P T ti) {op:BinOp} {x y:SV} (hy:y=.nilp\/y=.nsl) {K:SV->Prop} (hk:Zv8 op ti x K) (hxy:(Zhz ti.kind=true->y=.nilp)/\(Zoe ti.kind=true->y=.nsl)) {u v:Value} (hu:den E x u) (hv:den E y v) (ox oy:Operand) :
  ∃ r s,(∀ w,((do eqGuard op T ox oy u v;binOp op T u v:Sem Value)).run P w=.ok r w)/\den E s r/\K s:=by
 have hp:Zhz ti.kind=true->(∃ e,P.underlying T=some (.pointer e))/\v=.pointer none:=by
  intro hq;obtain ⟨d,hd,hk2⟩:=h.get;refine ⟨?_,?_⟩
  ·cases d<;>simp[ZqQ] at hk2<;>rw[<-hk2] at hq<;>simp[Zhz] at hq
   exact ⟨_,hd⟩
  ·have:=hxy.1 hq
   subst this;simpa only[den] using hv
 have hs:Zoe ti.kind=true->(∃ e,P.underlying T=some (.slice e))/\v=.slice none 0 0:=by
  intro hq;obtain ⟨d,hd,hk2⟩:=h.get;refine ⟨?_,?_⟩
  ·cases d<;>simp[ZqQ] at hk2<;>rw[<-hk2] at hq<;>simp[Zoe] at hq
   exact ⟨_,hd⟩
  ·have:=hxy.2 hq
   subst this;simpa only[den] using hv
 unfold Zv8 at hk;split at hk
 ·rename_i t d
  split at hk
  ·rename_i hq
   obtain ⟨⟨e,hT⟩,rfl⟩:=hp hq;simp only[den] at hu;rcases hu with ⟨rfl,e2⟩ | ⟨x,p,xs,rfl,e2,_⟩
   ·simp at e2;subst e2
    exact Za6 (Zby hT none) (.inl ⟨_,rfl⟩) ox oy (QY ..) (QY ..) hk
   ·simp at e2;subst e2
    exact Za6 (Zby hT (some p)) (.inl ⟨_,rfl⟩) ox oy (QY ..) (QY ..) hk
  ·exact hk.elim
 ·split at hk
  ·rename_i hq
   obtain ⟨⟨e,hT⟩,rfl⟩:=hp hq;simp only[den] at hu;obtain ⟨b,_,rfl⟩:=hu;exact Za6 (Zby hT (some _)) (.inl ⟨_,rfl⟩) ox oy (by simp only[den];rfl) (by simp only[den];rfl) hk
  ·exact hk.elim
 ·split at hk
  ·rename_i hq
   obtain ⟨⟨e,hT⟩,rfl⟩:=hp hq;simp only[den] at hu;obtain ⟨p,xs,rfl,_⟩:=hu;exact Za6 (Zby hT (some _)) (.inl ⟨_,rfl⟩) ox oy (by simp only[den];rfl) (by simp only[den];rfl) hk
  ·exact hk.elim
 ·split at hk
  ·rename_i hq
   obtain ⟨⟨e,hT⟩,rfl⟩:=hp hq;simp only[den] at hu;subst hu;exact Za6 (Zby hT none) (.inl ⟨_,rfl⟩) ox oy (by simp only[den];rfl) (by simp only[den];rfl) hk
  ·exact hk.elim
 ·split at hk
  ·rename_i hq
   obtain ⟨⟨e,hT⟩,rfl⟩:=hs hq;simp only[den] at hu;subst hu;exact Za6 (Zgp hT none 0 0) (.inr ⟨_,_,_,rfl⟩) ox oy (by simp only[den];rfl) (by simp only[den];rfl) hk
  ·exact hk.elim
 ·rename_i t d
  split at hk
  ·rename_i hq
   obtain ⟨⟨e,hT⟩,rfl⟩:=hs hq;simp only[den] at hu;obtain ⟨a,cap,e1,_,hn,h3⟩:=hu;simp at e1;subst e1;cases a with
   | none =>
    have hd:d=[]:=by
     grind
    exact Za6 (Zgp hT none _ _) (.inr ⟨_,_,_,rfl⟩) ox oy (by simp only[den];rfl) (by simp only[den];rfl) (hk.1 hd)
   | some a=>exact Za6 (Zgp hT (some a) _ _) (.inr ⟨_,_,_,rfl⟩) ox oy (by simp only[den];rfl) (by simp only[den];rfl) hk.2
  ·exact hk.elim
 ·exact hk.elim
end
section
variable {P:Program}
def ZmX (cells:List SV) (H:List Entry) (K:SV->List Entry->Prop):Prop :=
 ZoX H 0 λn=>ZnV H [.box cells] λH'=>K (.ptr n 0) H'
theorem Zoi {B:Base} {E:Env} {H:List Entry} (hI:Inv B E H) {cells:List SV} {K:SV->List Entry->Prop} (hk:ZmX cells H K) (cs:Array Value) (T:TypeId) (hd:ZW E cells cs.toList) :
  ∃ E' H' s,E'.w=E.w.alloc (.cells cs T)/\Inv B E' H'/\E.le E'/\den E' s (.pointer (some ⟨E.w.heap.size,0,none⟩))/\K s H':=by
 unfold ZmX at hk;rw[Zaj,Jc,Nat.zero_add] at hk;have hle:=Zne hI (.cells cs T) (.pointer (some ⟨E.w.heap.size,0,none⟩));have hid:(E.ids++[Value.pointer (some ⟨E.w.heap.size,0,none⟩)])[H.length]?=some (.pointer (some ⟨E.w.heap.size,0,none⟩)):=by
  rw[<-hI.len];simp
 refine ⟨⟨E.S,E.w.alloc (.cells cs T),E.ids++[.pointer (some ⟨E.w.heap.size,0,none⟩)]⟩,_,_,rfl,hI.alloc (.cells cs T) _ _ rfl ?_,hle,?_,hk⟩
 ·exact ⟨_,cs,T,hid,Go.heap_alloc_new _ _,ZA hle _ _ hd⟩
 ·simp only[den]
  grind
theorem JX (w:World) (o:Obj):Grow w (w.alloc o):=λb hb=>Go.heap_alloc_old w o hb
def Ztw (ti:TI) (H:List Entry) (K:SV->List Entry->Prop):Prop:=Zme ti.zero λcells=>ZmX cells H K
theorem ZqV {B:Base} {E:Env} {H:List Entry} (hI:Inv B E H) {T:TypeId} {ti:TI} (h:ZaH P T ti) {K:SV->List Entry->Prop} (hk:Ztw ti H K) :
  ∃ u E' H' s,(Instr.alloc T true (.tuple #[])).run P E.w=.ok u E'.w/\Inv B E' H'/\E.le E'/\den E' s u/\K s H'/\Grow E.w E'.w:=by
 obtain ⟨l,hd,hk⟩:=Zdc E _ _ hk;obtain ⟨i,hi,_,_,hz⟩:=h.info';obtain ⟨E',H',s,hw,h1,h2,h3,h4⟩:=Zoi hI hk ti.zero.cells T hd;refine ⟨_,E',H',s,?_,h1,h2,h3,h4,by rw[hw];exact JX _ _⟩;rw[hw];simp[Instr.alloc,zeroValue,typeInfo,hi,hz,newVar,newRow]
def Zwm (s:SV) (H:List Entry) (K:SV->List Entry->Prop):Prop:=if s.whole=true then ZmX s.cells H K else False
theorem ZtM {B:Base} {E:Env} {H:List Entry} (hI:Inv B E H) {T:TypeId} {s:SV} {v:Value} (hs:den E s v) {K:SV->List Entry->Prop} (hk:Zwm s H K) :
  ∃ u E' H' r,(Instr.box T v).run P E.w=.ok u E'.w/\Inv B E' H'/\E.le E'/\den E' r u/\K r H'/\Grow E.w E'.w:=by
 unfold Zwm at hk;split at hk
 ·rename_i hw
  obtain ⟨E',H',r,hw',h1,h2,h3,h4⟩:=Zoi hI hk v.cells T (QX hs hw);refine ⟨_,E',H',r,?_,h1,h2,h3,h4,by rw[hw'];exact JX _ _⟩;rw[hw'];simp[Instr.box,newVar,newRow]
 ·exact hk.elim
def Qa:List SV->List Entry->(List SV->List Entry->Prop)->Prop
 | [],H,K=>K [] H
 | s::r,H,K=>match s with
  | .own id=>ZdW H id λe=>match e with
   | .arr _ t d=>ZeR H id (.frz t d) λH'=>Qa r H' λr' H''=>K (.sl t d::r') H''
   | .darr _ e d _=>ZeR H id (.frz e.ty d) λH'=>Qa r H' λr' H''=>K (.sl e.ty d::r') H''
   | .frz t d=>Qa r H λr' H'=>K (.sl t d::r') H'
   | _=>False
  | .mown id=>ZdW H id λe=>match e with
   | .mpe k v d=>ZeR H id (.frm k v d) λH'=>Qa r H' λr' H''=>K (.mp k v d::r') H''
   | .frm k v d=>Qa r H λr' H'=>K (.mp k v d::r') H'
   | _=>False
  | s=>Qa r H λr' H'=>K (s::r') H'
theorem Xj {B:Base}:∀ (cs:List SV) {E:Env} {H:List Entry} (_:Inv B E H) {vs:List Value} (_:ZW E cs vs) {K:List SV->List Entry->Prop} (_:Qa cs H K),
  ∃ E' H' cs',Frz E H E' H'/\Inv B E' H'/\ZW E' cs' vs/\K cs' H'/\∀ (i:Nat) (c:List SV),H[i]?=some (.box c)->H'[i]?=some (.box c)
 | [],E,H,hI,vs,hd,K,hk=>⟨E,H,[],Frz.refl E H,hI,hd,hk,λ_ _ h=>h⟩
 | s::r,E,H,hI,vs,hd,K,hk=>by
  match vs,hd with
  | [],hd=>simp[ZW] at hd
  | v::vs,hd =>
   simp only[ZW] at hd;have other:(Qa r H λr' H'=>K (s::r') H')->∃ E' H' cs',Frz E H E' H'/\Inv B E' H'/\ZW E' cs' (v::vs)/\K cs' H'/\∀ (i:Nat) (c:List SV),H[i]?=some (.box c)->H'[i]?=some (.box c):=by
    intro hk;obtain ⟨E',H',cs',h0,h1,h3,h4,h5⟩:=Xj r hI hd.2 hk;exact ⟨E',H',s::cs',h0,h1,⟨ZdV h0.le s v hd.1,h3⟩,h4,h5⟩
   cases s with
   | own k =>
    simp only[Qa] at hk;obtain ⟨e,he,hk⟩:=Yu H hk;have h1:=hd.1;simp only[den] at h1;have hlt:k<H.length:=(List.getElem?_eq_some_iff.1 he).1;split at hk
    ·rename_i et t d
     rw[YO] at hk;obtain ⟨S',hle,hI',hr,hS'⟩:=hI.freeze he h1.1;have hf1:Frz E H ⟨S',E.w,E.ids⟩ (H.set k (.frz t d)):=Frz.one he rfl h1.1 rfl hle hS';obtain ⟨E',H',cs',h0,h1',h3,h4,h5⟩:=Xj r hI' (ZA hle _ _ hd.2) hk;refine ⟨E',H',.sl t d::cs',hf1.trans h0,h1',⟨by simp only[den];exact Z6 h0.le.S h0.le.w (.sl t) d [v] hr,h3⟩,h4,λi c hi=>h5 i c ?_⟩;grind
    ·rename_i et e d fp
     rw[YO] at hk;obtain ⟨S',hle,hI',hr,hS'⟩:=hI.ZtW he h1.1;have hf1:Frz E H ⟨S',E.w,E.ids⟩ (H.set k (.frz e.ty d)):=Frz.one he rfl h1.1 rfl hle hS';obtain ⟨E',H',cs',h0,h1',h3,h4,h5⟩:=Xj r hI' (ZA hle _ _ hd.2) hk;refine ⟨E',H',.sl e.ty d::cs',hf1.trans h0,h1',⟨by simp only[den];exact Z6 h0.le.S h0.le.w (.sl e.ty) d [v] hr,h3⟩,h4,λi c hi=>h5 i c ?_⟩;grind
    ·rename_i t d
     obtain ⟨v',e1,h2⟩:=hI.ent k _ he;have:=h1.1.symm.trans e1;simp at this;subst this;obtain ⟨E',H',cs',h0,h1',h3,h4,h5⟩:=Xj r hI hd.2 hk;exact ⟨E',H',.sl t d::cs',h0,h1',⟨by simp only[den];exact Z6 h0.le.S h0.le.w (.sl t) d [v] h2,h3⟩,h4,h5⟩
    ·exact hk.elim
   | mown k =>
    simp only[Qa] at hk;obtain ⟨e,he,hk⟩:=Yu H hk;have h1:=hd.1;simp only[den] at h1;have hlt:k<H.length:=(List.getElem?_eq_some_iff.1 he).1;split at hk
    ·rename_i kt vt d
     rw[YO] at hk;obtain ⟨S',hle,hI',hr,hS'⟩:=hI.ZtX he h1.1;have hf1:Frz E H ⟨S',E.w,E.ids⟩ (H.set k (.frm kt vt d)):=Frz.one he rfl h1.1 rfl hle hS';obtain ⟨E',H',cs',h0,h1',h3,h4,h5⟩:=Xj r hI' (ZA hle _ _ hd.2) hk;refine ⟨E',H',.mp kt vt d::cs',hf1.trans h0,h1',⟨by simp only[den];exact Z6 h0.le.S h0.le.w (.mp kt vt) d [v] hr,h3⟩,h4,λi c hi=>h5 i c ?_⟩;grind
    ·rename_i kt vt d
     obtain ⟨v',e1,h2⟩:=hI.ent k _ he;have:=h1.1.symm.trans e1;simp at this;subst this;obtain ⟨E',H',cs',h0,h1',h3,h4,h5⟩:=Xj r hI hd.2 hk;exact ⟨E',H',.mp kt vt d::cs',h0,h1',⟨by simp only[den];exact Z6 h0.le.S h0.le.w (.mp kt vt) d [v] h2,h3⟩,h4,h5⟩
    ·exact hk.elim
   | _=>exact other (by simpa only[Qa] using hk)
theorem Zlf {B:Base} (cs:List SV) {E:Env} {H:List Entry} (hI:Inv B E H) {vs:List Value} (hd:ZW E cs vs) {K:List SV->List Entry->Prop} (hk:Qa cs H K) :
  ∃ E' H' cs',E'.w=E.w/\E'.ids=E.ids/\Inv B E' H'/\E.le E'/\ZW E' cs' vs/\K cs' H':=by
 obtain ⟨E',H',cs',h0,h1,h2,h3,_⟩:=Xj cs hI hd hk;exact ⟨E',H',cs',h0.w,h0.ids,h1,h0.le,h2,h3⟩
theorem ZnI {S:Nat->Prop} {w:World}:∀ (t:Ty) (d:t.den) (vs:List Value),rep S w t d vs->∀ u∈vs,u.oneCell'=true
 | .int _,_,_,h,u,hu=>by cases h;simp at hu;subst hu;rfl
 | .bool,_,_,h,u,hu=>by cases h;simp at hu;subst hu;rfl
 | .str,_,_,h,u,hu=>by cases h;simp at hu;subst hu;rfl
 | .unit,_,_,h,u,hu=>by cases h;simp at hu
 | .pair a b,_,_,⟨v1,v2,e,ha,hb⟩,u,hu=>by
   subst e;rcases List.mem_append.1 hu with hu | hu
   ·exact ZnI a _ _ ha u hu
   ·exact ZnI b _ _ hb u hu
 | .sl _,_,_,⟨a,cap,e,_⟩,u,hu=>by subst e;simp at hu;subst hu;rfl
 | .ptr _,_,_,⟨_,_,e,_⟩,u,hu=>by subst e;simp at hu;subst hu;rfl
 | .fn _ _,_,_,⟨_,e,_⟩,u,hu=>by subst e;simp at hu;subst hu;rfl
 | .mp _ _,_,_,.inl ⟨_,e⟩,u,hu=>by subst e;simp at hu;subst hu;rfl
 | .mp _ _,_,_,.inr ⟨_,_,_,e,_⟩,u,hu=>by subst e;simp at hu;subst hu;rfl
 | .nptr _,_,_,.inl ⟨_,e⟩,u,hu=>by subst e;simp at hu;subst hu;rfl
 | .nptr _,_,_,.inr ⟨_,_,_,_,e,_⟩,u,hu=>by subst e;simp at hu;subst hu;rfl
theorem ZjV {t:Ty} {S:Nat->Prop} {w:World}:∀ (l:List t.den) (xs:List Value),YZ (rep S w t) l xs->∀ u∈xs,u.oneCell'=true
 | [],_,e,u,hu=>by cases e;simp at hu
 | d::l,_,⟨v1,v2,e,r,rs⟩,u,hu=>by
   subst e;rcases List.mem_append.1 hu with hu | hu
   ·exact ZnI t d v1 r u hu
   ·exact ZjV l v2 rs u hu
theorem Zcb (w:World) (g:Nat) (cs:Array Value):w.grownBy (w.setRow g cs) (some g) :=
 ⟨rfl,rfl,rfl,by simp[World.setRow],λk _ hk=>setRow_other w g k cs (λe=>hk (by rw[e]))⟩
theorem Zfq {T:TypeId} {ti:TI} (h:ZaH P T ti) (w:World) (g o:Nat) (v:Value) (cur:Array Value) (E:TypeId) (hg:w.heap[g]?=some (.cells cur E (0,0)))
  (hsz:v.cells.size=ti.size) (hfit:o+ti.size<=cur.size) (h1:∀ u∈v.cells.toList,u.oneCell'=true) :
  (Instr.storeAt T (.pointer (some ⟨g,o,none⟩)) v).run P w=.ok () (w.setRow g (cur.toList.take o++v.cells.toList++cur.toList.drop (o+ti.size)).toArray):=by
 obtain ⟨i,hi,hs,_⟩:=h.info';have hst:=run_storeCells_at P g o E v.cells.toList 0 cur w hg (by grind) h1;simp only[Instr.storeAt,Instr.sureAddr,pure_bind,storeVar];rw[Sem.run_bind,run_sizeOf hi,Result.andThen_ok,hs];grind
def ZmM (cs:List SV) (n:Nat):Bool:=cs.length == n
def Zis {α:Type} (old:List α) (off:Nat) (new:List α) (K:List α->Prop):Prop :=
 ZmJ old off λa=>ZoX new 0 λn=>Zgb old (off+n) λc=>ZnV new c λbc=>ZnV a bc K
theorem ZeN {α:Type} (old:List α) (off:Nat) (new:List α) (K:List α->Prop):Zis old off new K=K (old.take off++(new++old.drop (off+new.length))):=by
 simp[Zis,Zfw,Zaj,JW,Jc]
theorem Zdn {E:Env} {cs:List SV} {vs:List Value} (h:ZW E cs vs) {ds:List SV} {us:List Value} (h':ZW E ds us) (off:Nat) :
  ZW E (cs.take off++(ds++cs.drop (off+ds.length))) (vs.take off++us++vs.drop (off+us.length)):=by
 rw[List.append_assoc,Yp _ _ h'];exact Jt _ _ (Zdo _ _ h off) _ _ (Jt _ _ h' _ _ (QZ _ _ h _))
def Zqa (ti:TI) (sa sx:SV) (H:List Entry) (K:List Entry->Prop):Prop :=
 if (sx.whole&&ZmN sx.cells&&ZmM sx.cells ti.size)=true then
  match sa with
  | .ptr id off=>ZdW H id λe=>match e with
   | .box old=>if off+ti.size<=old.length then Zis old off sx.cells λnew=>ZeR H id (.box new) K else False
   | _=>False
  | .oep id sz i off=>Qa sx.cells H λcs H'=>ZdW H' id λe=>match e with
   | .arr et t d=>t.size=sz/\off+ti.size<=t.size/\ZfR d i λx=>XA t x λold=>Zis old off cs λnew=>Y4 t new λy _=>ZeR H' id (.arr et t (d.set i.toNat y)) K
   | _=>False
  | _=>False
 else False
theorem Zqy {t:Nat} (l vs:List Value) (N i off:Nat) (hN:N<=l.length) (hi:i*t+t<=N) (ho:off+vs.length<=t) :
  (l.take (i*t+off)++vs++l.drop (i*t+off+vs.length)).take N =
   (l.take N).take (i*t)++(((l.take N).drop (i*t)).take t |>.take off |> (·++vs++(((l.take N).drop (i*t)).take t).drop (off+vs.length)))++(l.take N).drop (i*t+t):=by
 generalize i*t=A at *;apply List.ext_getElem?;intro j;simp only[List.getElem?_append,List.getElem?_take,List.getElem?_drop,List.length_take,List.length_append,List.length_drop];have e1:min (A+off) l.length=A+off:=by omega
 have e2:min A (min N l.length)=A:=by omega
 have e3:min N l.length=N:=by omega
 have e4:min t (N-A)=t:=by omega
 grind
theorem Zfk {t:Nat} (l vs:List Value) (o N i off:Nat) (hN:o+N<=l.length) (hi:i*t+t<=N) (ho:off+vs.length<=t) :
  ((l.take (o+(i*t+off))++vs++l.drop (o+(i*t+off)+vs.length)).drop o).take N =
   ((l.drop o).take N).take (i*t)++((((l.drop o).take N).drop (i*t)).take t |>.take off |> (·++vs++((((l.drop o).take N).drop (i*t)).take t).drop (off+vs.length)))++((l.drop o).take N).drop (i*t+t):=by
 rw[<-Zqy (l.drop o) vs N i off (by grind) hi ho];congr 1;rw[List.take_add,List.append_assoc,List.append_assoc,List.drop_append_of_le_length (by grind),List.drop_eq_nil_of_le (by grind),List.nil_append,List.append_assoc,List.drop_drop,Nat.add_assoc]
theorem ZoA {B:Base} {E:Env} {H:List Entry} (hI:Inv B E H) {T:TypeId} {ti:TI} (h:ZaH P T ti) {sa sx:SV} {va vx:Value} (ha:den E sa va) (hx:den E sx vx)
  {K:List Entry->Prop} (hk:Zqa ti sa sx H K) :
  ∃ E' H',(Instr.storeAt T va vx).run P E.w=.ok () E'.w/\Inv B E' H'/\E.le E'/\K H'/\E.w.grownBy E'.w (Yl va):=by
 unfold Zqa at hk;split at hk
 ·rename_i hc
  simp only[Bool.and_eq_true,ZmM,beq_iff_eq] at hc;obtain ⟨⟨hw,h1⟩,hlen⟩:=hc;have hdx:=QX hx hw;have hl:=Yp _ _ hdx;have hone:=ZdR _ _ hdx h1;have hsz:vx.cells.size=ti.size:=by grind
  have hsz':vx.cells.toList.length=ti.size:=by rw[<-hl,hlen]
  split at hk
  ·rename_i id off
   obtain ⟨e,he,hk⟩:=Yu H hk;split at hk
   ·rename_i old
    split at hk
    ·rename_i hfit
     rw[ZeN,YO] at hk;simp only[den] at ha;obtain ⟨b,e1,rfl⟩:=ha;obtain ⟨b',cs,T',e2,e3,e4⟩:=hI.ent id _ he;have:=e1.symm.trans e2;simp at this;subst this;have hol:=Yp _ _ e4;have hrun:=Zfq h E.w b off vx cs T' e3 hsz (by grind) hone;have hg:=Zcb E.w b (cs.toList.take off++vx.cells.toList++cs.toList.drop (off+ti.size)).toArray;have hle:=Zbi hg hI.Slt (λg e=>by simp at e;subst e;exact (hI.free id _ _ _ he rfl e1 rfl).1);refine ⟨⟨E.S,_,E.ids⟩,_,hrun,hI.write he rfl e1 hg _ ?_,hle,hk,hg⟩;refine ⟨b,_,T',e1,setRow_heap E.w b cs _ T' (0,0) e3,?_⟩;have:=Zdn (ZA hle _ _ e4) (ZA hle _ _ hdx) off;grind
    ·exact hk.elim
   ·exact hk.elim
  ·rename_i id sz i off
   obtain ⟨E1,H1,cs',hw1,hid1,hI1,hle1,hd1,hk⟩:=Zlf _ hI hdx hk;obtain ⟨e,he,hk⟩:=Yu H1 hk;split at hk
   ·rename_i et t d
    obtain ⟨hts,hot,hi0,hlt',hk⟩:=hk;have hlt:i.toNat<d.length:=by omega
    obtain ⟨x,hx'⟩:∃ x,d[i.toNat]?=some x:=⟨_,List.getElem?_eq_getElem hlt⟩;have hk:=hk x hx';simp only[Y0,ZeN] at hk;simp only[den] at ha;obtain ⟨b,bo,n,c,e1,rfl⟩:=ha;have e1':E1.ids[id]?=some (.slice (some ⟨b,bo,none⟩) n c):=by rw[hid1];exact e1
    obtain ⟨v',xs,e2,hown,hreps⟩:=hI1.ent id _ he;have:=e1'.symm.trans e2;simp at this;subst this;rcases hown.2 with ⟨hv,_⟩ | ⟨g,cap,cur,o,hv,hg0,hh,hcap,hml,hcs,htake⟩
    ·simp at hv
    ·simp only[Value.slice.injEq,Option.some.injEq,Addr.mk.injEq,and_true] at hv
     obtain ⟨⟨hbg,hbo⟩,hnl,hcc⟩:=hv;subst hbg;subst hbo;rw[<-hts];rw[hw1] at hh;have hcl:cur.toList.length=cur.size:=Array.length_toList;have hNle:bo+d.length*t.size<=cur.toList.length:=by
      rw[hcl];exact Nat.le_trans (Nat.add_le_add_left (Nat.mul_le_mul_right _ hcap) _) hcs
     have hit:i.toNat*t.size+t.size<=d.length*t.size:=by
      rw[<-Nat.succ_mul];exact Nat.mul_le_mul_right _ hlt
     have hrun:=Zfq h E.w b (bo+(i.toNat*t.size+off)) vx cur et hh hsz (by rw[<-hcl];omega) hone;have hg:=Zcb E1.w b (cur.toList.take (bo+(i.toNat*t.size+off))++vx.cells.toList++cur.toList.drop (bo+(i.toNat*t.size+off)+ti.size)).toArray;have hle:=Zbi hg hI1.Slt (λg e=>by simp at e;subst e;exact (hI1.free id _ _ _ he rfl e1' rfl).1);have hdrop:=Zil (λd vs=>YV t d vs) _ _ hreps i.toNat;have hdc:d.drop i.toNat=x::d.drop (i.toNat+1):=by
      rw[List.drop_eq_getElem_cons hlt];grind
     rw[hdc] at hdrop;obtain ⟨v1,v2,hv12,hrx,_⟩:=hdrop;have hl1:=YV t x v1 hrx;have hv1:v1=(xs.drop (i.toNat*t.size)).take t.size:=by grind
     have hnew:=Zdn (ZA hle _ _ (YI t x v1 hrx)) (ZA hle _ _ hd1) off;obtain ⟨y,r,w1,w2,hww,hry,_,hky⟩:=YQ t _ _ _ hnew hk;rw[YO] at hky;have hly:=YV t y w1 hry;have hw2:w2=[]:=by
      have:=congrArg List.length hww;simp only[List.length_append,List.length_take,List.length_drop,hl1,hly,hsz'] at this;apply List.eq_nil_of_length_eq_zero;omega
     subst hw2;rw[List.append_nil] at hww;refine ⟨⟨E1.S,E1.w.setRow b _,E1.ids⟩,_,?_,hI1.write he rfl e1' hg _ ?_,hle1.trans hle,hky,by rw[<-hw1];exact hg⟩
     ·rw[hw1];exact hrun
     ·have hreps':=XT (R':=rep E1.S (E1.w.setRow b (cur.toList.take (bo+(i.toNat*t.size+off))++vx.cells.toList++cur.toList.drop (bo+(i.toNat*t.size+off)+ti.size)).toArray) t) (λd vs=>Z6 hle.S hle.w t d vs) _ _ hreps
      have hset:=Zm1 (λd vs=>YV t d vs) _ _ hreps' i.toNat y w1 hlt hry;refine ⟨_,_,e1',⟨?_,.inr ⟨b,cap,_,bo,?_,hg0,setRow_heap E1.w b cur _ et (0,0) (by rw[hw1];exact hh),by simpa using hcap,hml,?_,rfl⟩⟩,?_⟩
      ·rw[List.length_take,List.toList_toArray,List.length_set]
       simp only[List.length_append,List.length_take,List.length_drop,hsz'];omega
      ·grind
      ·rw[List.size_toArray]
       simp only[List.length_append,List.length_take,List.length_drop,hsz'];omega
      ·rw[List.length_set]
       have hsp:=Zfk (t:=t.size) cur.toList vx.cells.toList bo (d.length*t.size) i.toNat off hNle hit (by rw[hsz'];omega);grind
   ·exact hk.elim
  ·exact hk.elim
 ·exact hk.elim
end
section
variable {P:Program}
def Zp1 (regs:List SV):List (Nat×Operand)->(List (Nat×SV)->Prop)->Prop
 | [],K=>K []
 | (i,x)::r,K=>QK regs x λs=>Zp1 regs r λl=>K ((i,s)::l)
def Zhu (E:Env):List (Nat×SV)->List (Nat×Value)->Prop
 | [],[]=>True
 | (i,s)::r,(j,v)::q=>i=j/\den E s v/\Zhu E r q
 | _,_=>False
theorem ZlV {E:Env} {regs:List SV} {a:Act} (hd:ZW E regs a.tmps.toList):∀ (ps:List (Nat×Operand)) {K:List (Nat×SV)->Prop},Zp1 regs ps K->
  ∃ l,Zhu E l (ps.map λx=>(x.1,a.eval x.2))/\K l
 | [],K,h=>⟨[],trivial,h⟩
 | (i,x)::r,K,h=>by
  obtain ⟨s,hs,h⟩:=Z8 hd h;obtain ⟨l,hl,h⟩:=ZlV hd r h;exact ⟨(i,s)::l,⟨rfl,hs,hl⟩,h⟩
def ZoR (place:Nat->(Nat->Nat->Prop)->Prop):List SV->List (Nat×SV)->(List SV->Prop)->Prop
 | z,[],K=>K z
 | z,(i,s)::r,K=>place i λoff sz=>if s.whole=true/\s.cells.length=sz/\off+sz<=z.length then Zis z off s.cells λz'=>ZoR place z' r K else False
theorem Zrm (cs:Array Value) (off:Nat) (v:Value) (h:off+v.cells.size<=cs.size) :
  (v.cells.zipIdx.foldl (λcs (x:Value×Nat)=>cs.setIfInBounds (off+x.2) x.1) cs).toList=cs.toList.take off++v.cells.toList++cs.toList.drop (off+v.cells.size):=by
 have he:v.cells.zipIdx.foldl (λcs (x:Value×Nat)=>cs.setIfInBounds (off+x.2) x.1) cs=(v.cells.toList.zipIdx 0).foldl (λcs (x:Value×Nat)=>cs.setIfInBounds (off+x.2) x.1) cs:=by
  rw[<-Array.foldl_toList,Array.toList_zipIdx]
 rw[he];obtain ⟨h1,h2⟩:=Great.foldl_set off v.cells.toList 0 cs;apply List.ext_getElem?;intro k;rw[Array.getElem?_toList,h2 k];simp only[List.getElem?_append,List.getElem?_take,List.getElem?_drop,List.length_take,List.length_append,Array.length_toList,Nat.add_zero,Array.getElem?_toList];grind
theorem ZiI {E:Env} (place:Nat->(Nat->Nat->Prop)->Prop) (p:Nat->Option (Nat×Nat)) (hp:∀ i K,place i K->∃ o s,p i=some (o,s)/\K o s) :
  ∀ (ps:List (Nat×SV)) (qs:List (Nat×Value)),Zhu E ps qs->∀ (z:List SV) (cs:Array Value) {K:List SV->Prop},ZW E z cs.toList->ZoR place z ps K->
   ∃ z' cs',Instr.fill p cs qs=some cs'/\ZW E z' cs'.toList/\K z'
 | [],[],_,z,cs,K,hz,h=>⟨z,cs,rfl,hz,h⟩
 | (i,s)::r,(j,v)::q,hd,z,cs,K,hz,h=>by
  obtain ⟨rfl,hs,hr⟩:=hd;simp only[ZoR] at h;obtain ⟨o,sz,hpi,h⟩:=hp i _ h;split at h
  ·rename_i hc
   obtain ⟨hw,hlen,hfit⟩:=hc;rw[ZeN] at h;have hdc:=QX hs hw;have hl:=Yp _ _ hdc;have hzl:=Yp _ _ hz;have hvs:v.cells.size=sz:=by grind
   have hstep:=Zrm cs o v (by grind);have hsp:=Zdn hz hdc o;obtain ⟨z',cs',h1,h2,h3⟩:=ZiI place p hp r q hr _ (v.cells.zipIdx.foldl (λcs (x:Value×Nat)=>cs.setIfInBounds (o+x.2) x.1) cs) (by grind) h;refine ⟨z',cs',?_,h2,h3⟩;unfold Instr.fill;grind
  ·exact h.elim
 | [],_::_,hd,_,_,_,_,_=>by simp[Zhu] at hd
 | _::_,[],hd,_,_,_,_,_=>by simp[Zhu] at hd
def Zq1 (ti:TI) (ps:List (Nat×SV)) (K:SV->Prop):Prop :=
 Zme ti.zero λz =>
  match ti.kind with
  | .st=>ZoR (λi k=>Zus ti.flds i λo s _=>k o s) z ps λcs=>K (.agg cs)
  | .arr _=>ZoR (λi k=>k (i*ti.esize) ti.esize) z ps λcs=>K (.agg cs)
  | _=>False
theorem ZnP {T:TypeId} {ti:TI} (h:ZaH P T ti) {fs:Array Field} (hd:P.underlying T=some (.struct fs)) :
  fs.toList.mapM (λf=>(P.info? f.type).map λi=>(f.offset,i.size))=some (ti.flds.map λx=>(x.1,x.2.1)):=by
 have:=h.flds;rw[hd] at this;simp only at this;revert this;generalize ti.flds=fl;generalize fs.toList=l;intro this;induction l generalizing fl with
 | nil=>simp_all
 | cons f l ih =>
  cases fl with
  | nil=>simp at this
  | cons x fl =>
   simp only[List.map_cons,List.cons.injEq,Prod.mk.injEq] at this;obtain ⟨⟨h1,h2,_⟩,h4⟩:=this;cases hi:P.info? f.type with
   | none=>simp[hi] at h2
   | some i =>
    grind
theorem Zq2 {E:Env} {T:TypeId} {ti:TI} (h:ZaH P T ti) {ps:List (Nat×SV)} {qs:Array (Nat×Value)} (hd:Zhu E ps qs.toList) {K:SV->Prop} (hk:Zq1 ti ps K) :
  ∃ u s,Zmg P (Instr.build T qs) u/\den E s u/\K s:=by
 unfold Zq1 at hk;obtain ⟨z,hz,hk⟩:=Zdc E _ _ hk;obtain ⟨i,hi,_,_,hzero⟩:=h.info';split at hk
 ·rename_i hkk
  obtain ⟨d0,hdd,hk'⟩:=h.get;rw[hkk] at hk';obtain ⟨fs,rfl⟩:∃ fs,d0=.struct fs:=by cases d0<;>simp[ZqQ] at hk';exact ⟨_,rfl⟩
  obtain ⟨z',cs',h1,h2,h3⟩:=ZiI (E:=E) (λi k=>Zus ti.flds i λo s _=>k o s) (((ti.flds.map λx=>(x.1,x.2.1)).toArray)[·]?) (λi K hh=>by
   obtain ⟨o,s,g,e,hk⟩:=ZnB _ hh;grind) ps qs.toList hd z ti.zero.cells hz hk
  refine ⟨_,_,λw=>run_build w T qs cs' ?_,by simp only[den];grind,h3⟩;unfold Program.built;simp only[hi,hdd,hzero,ZnP h hdd];exact h1
 ·rename_i n hdd
  obtain ⟨hu,_,ie,hie,hs,_,_⟩:=h.array hdd;obtain ⟨z',cs',h1,h2,h3⟩:=ZiI (E:=E) (λi k=>k (i*ti.esize) ti.esize) (λi=>some (i*ti.esize,ti.esize)) (λi K hh=>⟨_,_,rfl,hh⟩) ps qs.toList hd z ti.zero.cells hz hk;refine ⟨_,_,λw=>run_build w T qs cs' ?_,by simp only[den];grind,h3⟩;unfold Program.built;grind
 ·exact hk.elim
def ZnD (t:Ty):Nat->List SV->(List t.den->Prop)->Prop
 | 0,_,K=>K []
 | n+1,cs,K=>Y4 t cs λx r=>ZnD t n r λl=>K (x::l)
theorem ZlS {E:Env} (t:Ty):∀ (n:Nat) (cs:List SV) {K:List t.den->Prop} (vs:List Value),ZW E cs vs->vs.length=n*t.size->ZnD t n cs K->
  ∃ l,l.length=n/\YZ (rep E.S E.w t) l vs/\K l
 | 0,cs,K,vs,_,hl,h=>⟨[],rfl,by simp[YZ];grind,h⟩
 | n+1,cs,K,vs,hd,hl,h=>by
  obtain ⟨x,r,v1,v2,e,h1,h2,h3⟩:=YQ t cs _ vs hd h;have hl1:=YV t x v1 h1;obtain ⟨l,hl',hr,hk⟩:=ZlS t n r v2 h2 (by
   grind) h3
  exact ⟨x::l,by simp[hl'],⟨v1,v2,e,h1,hr⟩,hk⟩
def Zel (et:TypeId) (t:Ty) (d:List t.den) (H:List Entry) (K:SV->List Entry->Prop):Prop :=
 ZoX H 0 λn=>ZnV H [.arr et t d] λH'=>K (.own n) H'
theorem ZlQ {B:Base} {E:Env} {H:List Entry} (hI:Inv B E H) {et:TypeId} {t:Ty} {d:List t.den} {K:SV->List Entry->Prop} (hk:Zel et t d H K) (cs:Array Value) (cap:Nat)
  (hc:d.length<=cap) (hm:cap<=maxLen) (hs:cs.size=cap*t.size) (hr:YZ (rep E.S E.w t) d (cs.toList.take (d.length*t.size))) :
  ∃ E' H' s,E'.w=E.w.alloc (.cells cs et)/\Inv B E' H'/\E.le E'/\den E' s (.slice (some ⟨E.w.heap.size,0,none⟩) d.length cap)/\K s H':=by
 unfold Zel at hk;rw[Zaj,Jc,Nat.zero_add] at hk;have hle:=Zne hI (.cells cs et) (.slice (some ⟨E.w.heap.size,0,none⟩) d.length cap);have hid:(E.ids++[Value.slice (some ⟨E.w.heap.size,0,none⟩) d.length cap])[H.length]?=some (.slice (some ⟨E.w.heap.size,0,none⟩) d.length cap):=by
  rw[<-hI.len];simp
 refine ⟨⟨E.S,E.w.alloc (.cells cs et),E.ids++[.slice (some ⟨E.w.heap.size,0,none⟩) d.length cap]⟩,_,_,rfl,hI.alloc (.cells cs et) _ _ rfl ?_,hle,?_,hk⟩
 ·refine ⟨_,cs.toList.take (d.length*t.size),hid,⟨?_,.inr ⟨_,cap,cs,0,rfl,Nat.zero_le _,Go.heap_alloc_new _ _,hc,hm,by grind,by rw[List.drop_zero]⟩⟩,XT (λd vs=>Z6 hle.S hle.w t d vs) _ _ hr⟩
  simp_all
 ·simp only[den]
  grind
def ZuV (z:List SV):Nat->(List SV->Prop)->Prop
 | 0,K=>K []
 | n+1,K=>ZuV z n λl=>ZnV z l K
theorem Zo8 (z:List SV):∀ (n:Nat) (K:List SV->Prop),ZuV z n K=K (List.replicate n z).flatten
 | 0,_=>rfl
 | n+1,K=>by simp[ZuV,Zo8 z n,Jc,List.replicate_succ]
theorem Znk {E:Env} {z:List SV} {vs:List Value} (h:ZW E z vs):∀ n,ZW E (List.replicate n z).flatten (List.replicate n vs).flatten
 | 0=>trivial
 | n+1=>by simpa[List.replicate_succ] using Jt _ _ h _ _ (Znk h n)
theorem Zat? (vs:List Value):∀ (n k:Nat),(List.replicate n vs).flatten[k]?=if k<n*vs.length then vs[k % vs.length]? else none
 | 0,k=>by simp
 | n+1,k=>by
  rw[List.replicate_succ,List.flatten_cons,List.getElem?_append];by_cases h:k<vs.length
  ·rw[if_pos h,if_pos (by grind),Nat.mod_eq_of_lt h]
  ·rw[if_neg h,Zat? vs n (k-vs.length)]
   have e:(k-vs.length) % vs.length=k % vs.length:=by
    rw[<-Nat.mod_eq_sub_mod (by omega)]
   grind
theorem Zej (z:Array Value) (n:Nat):(madeCells z (n*z.size)).toList=(List.replicate n z.toList).flatten:=by
 apply List.ext_getElem?;intro k;rw[Zat?,Array.length_toList];simp only[madeCells,Array.toList_map,Array.toList_range,List.getElem?_map,List.getElem?_range];by_cases h:k<n*z.size
 ·have hz:0<z.size:=by
   grind
  have hk:k % z.size<z.size:=Nat.mod_lt _ hz;simp[h,hk]
 ·simp[h]
def ZhL (ti:TI) (len:Nat) (ps:List (Nat×SV)) (H:List Entry) (K:SV->List Entry->Prop):Prop :=
 match ti.kind with
 | .sl=>if len=0/\ps.isEmpty=true then Zel ti.elem ti.ety [] H K else Zme ti.ezero λz=>if z.length=ti.esize/\ti.ety.size=ti.esize/\0<len*ti.esize/\len*ti.esize<=16777216 then
   ZuV z len λzz=>ZoR (λi k=>k (i*ti.esize) ti.esize) zz ps λcs=>Qa cs H λcs' H'=>ZnD ti.ety len cs' λd=>Zel ti.elem ti.ety d H' K
  else False
 | _=>False
theorem Zmi {B:Base} {E:Env} {H:List Entry} (hI:Inv B E H) {T:TypeId} {ti:TI} (h:ZaH P T ti) {len:Nat} {ps:List (Nat×SV)} {qs:Array (Nat×Value)} (hd:Zhu E ps qs.toList)
  {K:SV->List Entry->Prop} (hk:ZhL ti len ps H K) :
  ∃ u E' H' s,(Instr.buildSlice T len qs).run P E.w=.ok u E'.w/\Inv B E' H'/\E.le E'/\den E' s u/\K s H'/\Grow E.w E'.w:=by
 unfold ZhL at hk;split at hk
 ·rename_i hdd
  split at hk
  ·rename_i h0
   obtain ⟨rfl,hps⟩:=h0;have hps:ps=[]:=by simpa using hps
   subst hps;have hq:qs.toList=[]:=by cases hql:qs.toList with
    | nil=>rfl
    | cons q r=>rw[hql] at hd;simp[Zhu] at hd
   obtain ⟨hu,_,ie,hie,hs,_,hzero⟩:=h.slice hdd;obtain ⟨E2,H2,s,hw2,hI2,hle2,hd2,hk⟩:=ZlQ hI hk #[] 0 (by simp) (by unfold maxLen;omega) (by simp) (by simp[YZ]);refine ⟨_,E2,H2,s,?_,hI2,hle2,hd2,hk,by rw[hw2];exact JX _ _⟩;rw[hw2];simp[Instr.buildSlice,run_underlying hu,sizeOf,typeInfo,hie,hq,Instr.fill,newRow];grind
  obtain ⟨z,hz,hk⟩:=Zdc E _ _ hk;split at hk
  ·rename_i hc
   obtain ⟨hz1,hz2,hpos,hbig⟩:=hc;obtain ⟨hu,_,ie,hie,hs,_,hzero⟩:=h.slice hdd;rw[Zo8] at hk;have hzl:=Yp _ _ hz;have hzs:ti.ezero.cells.size=ti.esize:=by grind
   have hmade:(madeCells ti.ezero.cells (len*ti.esize)).toList=(List.replicate len ti.ezero.cells.toList).flatten:=by
    rw[<-hzs];exact Zej _ _
   obtain ⟨z',cs',h1,h2,h3⟩:=ZiI (E:=E) (λi k=>k (i*ti.esize) ti.esize) (λi=>some (i*ti.esize,ti.esize)) (λi K hh=>⟨_,_,rfl,hh⟩) ps qs.toList hd _ (madeCells ti.ezero.cells (len*ti.esize)) (by rw[hmade];exact Znk hz len) hk;obtain ⟨E1,H1,cs2,hw1,hid1,hI1,hle1,hd1,hk⟩:=Zlf _ hI h2 h3;have hsize:∀ (qs:List (Nat×Value)) (c c':Array Value),Instr.fill (λi=>some (i*ti.esize,ti.esize)) c qs=some c'->c'.size=c.size:=by
    intro qs;induction qs with
    | nil=>intro c c' hh;simp[Instr.fill] at hh;rw[hh]
    | cons q qs ih =>
     intro c c' hh;obtain ⟨i,v⟩:=q;simp only[Instr.fill] at hh;split at hh
     ·cases hh
     ·have:=ih _ _ hh
      rw[this,<-Array.foldl_toList,Array.toList_zipIdx];exact (Great.foldl_set (i*ti.esize) v.cells.toList 0 c).1
   have hcs:cs'.size=len*ti.esize:=by rw[hsize _ _ _ h1,size_madeCells]
   obtain ⟨d,hdl,hdr,hk⟩:=ZlS ti.ety len cs2 cs'.toList hd1 (by grind) hk;have hlen1:1<=ti.esize:=by
    grind
   have hlm:len<=maxLen:=by
    have:=Nat.mul_le_mul_left len hlen1;unfold maxLen;omega
   obtain ⟨E2,H2,s,hw2,hI2,hle2,hd2,hk⟩:=ZlQ hI1 hk cs' len (by omega) hlm (by rw[hcs,hz2]) (by
    rw[hdl,hz2,<-hcs,<-Array.length_toList,List.take_length];exact hdr)
   refine ⟨_,E2,H2,s,?_,hI2,hle1.trans hle2,hd2,hk,by rw[hw2,hw1];exact JX _ _⟩;rw[hw2,hw1,hdl];exact run_buildSlice E.w T ti.elem len qs cs' ie ti.ezero hu hie hzero (by rw[hs];omega) (by rw[hs];omega) (by rw[hs];exact h1)
  ·exact hk.elim
 ·exact hk.elim
def Zt6 (ti:TI) (sl sc:SV) (H:List Entry) (K:SV->List Entry->Prop):Prop :=
 match ti.kind,sl,sc with
 | .sl,.int _ l,.int _ c=>Zme ti.ezero λz=>if z.length=ti.esize/\ti.ety.size=ti.esize then
   0<=l/\l<=c/\c<=4611686018427387904/\(ti.ebytes:Int)*c<=281474976710656/\Y4 ti.ety z λx _=>Zel ti.elem ti.ety (List.replicate l.toNat x) H K
  else False
 | _,_,_=>False
theorem ZfM {α:Type} {R:α->List Value->Prop} {x:α} {vs:List Value} (h:R x vs):∀ n,YZ R (List.replicate n x) (List.replicate n vs).flatten
 | 0=>by simp[YZ]
 | n+1=>by simpa[List.replicate_succ,YZ] using ⟨vs,_,rfl,h,ZfM h n⟩
theorem ZsU {B:Base} {E:Env} {H:List Entry} (hI:Inv B E H) {T:TypeId} {ti:TI} (h:ZaH P T ti) {sl sc:SV} {vl vc:Value} (hl:den E sl vl) (hc:den E sc vc)
  {K:SV->List Entry->Prop} (hk:Zt6 ti sl sc H K) :
  ∃ u E' H' s,(Instr.makeSlice T vl vc).run P E.w=.ok u E'.w/\Inv B E' H'/\E.le E'/\den E' s u/\K s H'/\Grow E.w E'.w:=by
 unfold Zt6 at hk;split at hk
 ·rename_i kl l kc c hdd
  obtain ⟨z,hz,hk⟩:=Zdc E _ _ hk;split at hk
  ·rename_i hcond
   obtain ⟨hz1,hz2⟩:=hcond;obtain ⟨h0,hlc,hc63,hby,hk⟩:=hk;obtain ⟨hu,_,ie,hie,hs,hb,hzero⟩:=h.slice hdd;simp only[den] at hl hc;subst hl;subst hc;have hzl:=Yp _ _ hz;have hzs:ti.ezero.cells.size=ti.esize:=by grind
   obtain ⟨x,r,v1,v2,e1,hr,_,hk⟩:=YQ _ _ _ _ hz hk;have hv1:v1=ti.ezero.cells.toList:=by
    have h2:=YV _ _ _ hr
    simp_all
   have hmade:(madeCells ti.ezero.cells (c.toNat*ti.esize)).toList=(List.replicate c.toNat ti.ezero.cells.toList).flatten:=by
    rw[<-hzs];exact Zej _ _
   obtain ⟨E2,H2,s,hw2,hI2,hle2,hd2,hk⟩:=ZlQ hI hk (madeCells ti.ezero.cells (c.toNat*ti.esize)) c.toNat (by rw[List.length_replicate];omega) (by unfold maxLen;omega) (by rw[size_madeCells,hz2]) (by
    have hc:=ZfM hr c.toNat;have:=Zim (λd vs=>YV ti.ety d vs) _ _ hc l.toNat;rw[List.take_replicate] at this;rw[List.length_replicate,hmade,<-hv1]
    rwa [show min l.toNat c.toNat=l.toNat by omega] at this)
   refine ⟨_,E2,H2,s,?_,hI2,hle2,hd2,hk,by rw[hw2];exact JX _ _⟩;rw[hw2,List.length_replicate,<-hs];exact run_make E.w T ti.elem ie ti.ezero hu hie hzero kl kc l c h0 hlc (by rw[hb];exact hby) (by omega)
  ·exact hk.elim
 ·exact hk.elim
end
section
variable {P:Program}
theorem ZhE (w:World) (base:Nat) (t ty e:TypeId) (i:TypeInfo) (z:Value) (size bytes:Nat) (ht:P.underlying t=some (.slice e)) (hi:P.info? e=some i) (hz:i.zero=some z)
  (hsize:i.size=size) (hby:i.bytes=bytes) (_hzs:z.cells.size=size) (_hsz:0<size)
  (v:Value) (n:Nat) (xs:List Value) (hown:w.Vx base e size v n xs)
  (a:Addr) (m c:Nat) (news:List Value) (hl:news.length=m*size) (hnews:∀ j u,news[j]?=some u->w.cell? (a.add j)=some u) (h1:∀ u∈news,u.oneCell'=true)
  (h63:n+m<=maxLen) (hbytes:(n+m)*bytes<=140737488355328) {v':Value} {w':World} (hr':(Builtin.append_ #[t,t] ty #[v,.slice (some a) m c]).run P w=.ok v' w') :
  v'=.slice none 0 0\/Yl v'=v.ownBlock\/Yl v'=some w.heap.size:=by
 subst hsize;subst hby
 have hsmall:n+m<=9223372036854775807:=by simp only[maxLen] at h63;omega
 rcases hown.2 with ⟨rfl,rfl⟩ | ⟨g,cap,cur,o,rfl,hbg,hg,hnc,hcm,hcs,htake⟩
 ·by_cases hm:m=0
  ·subst hm
   have hn:news=[]:=List.eq_nil_of_length_eq_zero (by simpa using hl);subst hn;have hr:(Builtin.append_ #[t,t] ty #[.slice none 0 0,.slice (some a) 0 c]).run P w=.ok (.slice none 0 0) w:=by
    simp[Builtin.append_,run_underlying ht,sizeOf,typeInfo,hi,Builtin.lenOf,Builtin.firstCells,loadCells,loadCellsFrom]
   grind
  ·have hr:=run_append_nil (P:=P) w t ty e i z ht hi hz a m c news hl hnews (by omega) (by omega) (by grind)
   rw[hr] at hr';injection hr' with e1 _
   subst e1;exact .inr (.inr rfl)
 ·by_cases hroom:n+m<=cap
  ·have hmul:n*i.size+m*i.size<=cap*i.size:=by rw[<-Nat.add_mul];exact Nat.mul_le_mul_right _ hroom
   have hfit:o+n*i.size+news.length<=cur.size:=by rw[hl];omega
   have hr:=Zen (P:=P) w t ty e i ht hi g o n cap cur hg a m c news hl hnews h1 hroom hfit;rw[hr] at hr';injection hr' with e1 _
   subst e1;exact .inr (.inl rfl)
  ·have holds:∀ j u,xs[j]?=some u->w.cell? ((⟨g,o,none⟩:Addr).add j)=some u:=hown.ZeV rfl
   have hr:=run_append_grow (P:=P) w t ty e i z ht hi hz ⟨g,o,none⟩ n cap xs hown.1 holds a m c news hl hnews (by omega) (by omega) (growslice_fits (by omega) hbytes);rw[hr] at hr';injection hr' with e1 _
   subst e1;exact .inr (.inr rfl)
def Zu0 (x:SV) (H:List Entry) (K:(t:Ty)->List t.den->Prop) (Knil:Prop):Prop :=
 match x with
 | .sl t d=>K t d
 | .nsl=>Knil
 | .own id=>ZdW H id λe=>match e with
  | .arr _ t d=>K t d
  | .frz t d=>K t d
  | _=>False
 | _=>False
def ZvT (E:Env) (t:Ty) (d:List t.den) (v:Value):Prop :=
 (v=.slice none 0 0/\d=[])\/∃ ad c xs,v=.slice (some ad) d.length c/\xs.length=d.length*t.size/\(∀ j u,xs[j]?=some u->E.w.cell? (ad.add j)=some u)/\YZ (rep E.S E.w t) d xs
theorem ZlN {E:Env} {t:Ty} {d:List t.den} {v:Value} (h:rep E.S E.w (.sl t) d [v]):ZvT E t d v:=by
 obtain ⟨a,cap,e1,hle,hn,h3⟩:=h;simp at e1;cases a with
 | none =>
  have:=hn rfl;subst this;have hd:d=[]:=List.eq_nil_of_length_eq_zero (by omega);subst hd;exact .inl ⟨e1,rfl⟩
 | some ad =>
  rcases h3 with h3 | ⟨p,xs,e2,hp,hS,hc,h3⟩
  ·subst h3
   exact .inr ⟨ad,cap,[],e1,by simp,λj u hu=>by simp at hu,rfl⟩
  ·simp at e2;subst e2
   exact .inr ⟨ad,cap,xs,e1,Zjb (λd vs=>YV t d vs) _ _ h3,hc,h3⟩
theorem ZoY {E:Env} {et:TypeId} {t:Ty} {d:List t.den} {v:Value} {xs:List Value} (h2:E.w.Vx 0 et t.size v d.length xs) (h3:YZ (rep E.S E.w t) d xs):ZvT E t d v:=by
 rcases h2.2 with ⟨rfl,hn⟩ | ⟨g,cap,cur,o,rfl,_,hh,hc,_⟩
 ·exact .inl ⟨rfl,List.eq_nil_of_length_eq_zero hn⟩
 ·exact .inr ⟨_,cap,xs,rfl,h2.1,h2.ZeV rfl,h3⟩
theorem Zpf {B:Base} {E:Env} {H:List Entry} (hI:Inv B E H) {x:SV} {v:Value} (hx:den E x v) {K:(t:Ty)->List t.den->Prop} {Kn:Prop} (hk:Zu0 x H K Kn) :
  (∃ t d,ZvT E t d v/\K t d)\/(v=.slice none 0 0/\Kn):=by
 unfold Zu0 at hk;split at hk
 ·rename_i t d;simp only[den] at hx;exact .inl ⟨t,d,ZlN hx,hk⟩
 ·simp only[den] at hx;grind
 ·rename_i id
  obtain ⟨e,he,hk⟩:=Yu H hk;simp only[den] at hx;split at hk
  ·rename_i et t d
   obtain ⟨v',xs,e1,h2,h3⟩:=hI.ent id _ he;have:=hx.1.symm.trans e1;simp at this;subst this;exact .inl ⟨t,d,ZoY h2 h3,hk⟩
  ·rename_i t d
   obtain ⟨v',e1,h2⟩:=hI.ent id _ he;have:=hx.1.symm.trans e1;simp at this;subst this;exact .inl ⟨t,d,ZlN h2,hk⟩
  ·exact hk.elim
 ·exact hk.elim
def ZoJ (ti:TI) (s x:SV) (H:List Entry) (K:SV->List Entry->Prop):Prop :=
 match ti.kind with
 | .sl=>Zme ti.ezero λz=>if z.length=ti.esize/\0<ti.esize/\0<ti.ebytes then
   match s with
   | .own id=>ZdW H id λe=>match e with
    | .arr et t d=>if et=ti.elem/\t.size=ti.esize then
      Zu0 x H (λt' d'=>if h:t'=t then (d.length+d'.length)*ti.ebytes<=140737488355328/\ZeR H id .gone λH'=>Zqh h d' λd''=>Zel et t (d++d'') H' K else False)
       (ZeR H id .gone λH'=>Zel et t d H' K)
     else False
    | _=>False
   | .nsl=>if ti.ety.size=ti.esize then
     Zu0 x H (λt' d'=>if h:t'=ti.ety then d'.length*ti.ebytes<=140737488355328/\Zqh h d' λd''=>Zel ti.elem ti.ety d'' H K else False) (Zel ti.elem ti.ety [] H K)
    else False
   | _=>False
  else False
 | _=>False
theorem Zo7 {B:Base} {E:Env} {H:List Entry} (hI:Inv B E H) {et:TypeId} {t:Ty} {d:List t.den} {K:SV->List Entry->Prop} (hk:Zel et t d H K) {v:Value} {xs:List Value}
  (h2:E.w.Vx 0 et t.size v d.length xs) (h3:YZ (rep E.S E.w t) d xs)
  (hf:∀ g,Yl v=some g->¬E.S g/\(B.w.heap.size<=g\/B.io g)/\g<E.w.heap.size/\
   ∀ (j:Nat) (ej:Entry) (vj:Value),H[j]?=some ej->ej.live=true->E.ids[j]?=some vj->¬Zev ej vj g) :
  ∃ E' H' s,E'.w=E.w/\Inv B E' H'/\E.le E'/\den E' s v/\K s H':=by
 unfold Zel at hk;rw[Zaj,Jc,Nat.zero_add] at hk;have hid:(E.ids++[v])[H.length]?=some v:=by rw[<-hI.len];simp
 refine ⟨⟨E.S,E.w,E.ids++[v]⟩,_,_,rfl,hI.push v (.arr et t d) ⟨v,xs,hid,h2,h3⟩ (λ_=>hf),Zhv E v,?_,hk⟩;simp only[den];refine ⟨hid,?_⟩;rcases h2.2 with ⟨rfl,_⟩ | ⟨g,cap,cur,o,rfl,_⟩;all_goals grind
theorem Zqg {B:Base} {E:Env} {H:List Entry} (hI:Inv B E H) {T ty:TypeId} {ti:TI} (h:ZaH P T ti) {s x:SV} {vs vx:Value} (hs:den E s vs) (hx:den E x vx)
  {K:SV->List Entry->Prop} (hk:ZoJ ti s x H K) :
  ∃ u E' H' r,(Builtin.append_ #[T,T] ty #[vs,vx]).run P E.w=.ok u E'.w/\Inv B E' H'/\E.le E'/\den E' r u/\K r H'/\E.w.grownBy E'.w vs.ownBlock:=by
 unfold ZoJ at hk;split at hk
 ·rename_i hdd
  obtain ⟨z,hz,hk⟩:=Zdc E _ _ hk;split at hk
  ·rename_i hc
   obtain ⟨hz1,hpos,hbpos⟩:=hc;obtain ⟨hu,_,ie,hie,hsz,hby,hzero⟩:=h.slice hdd;have hzs:ti.ezero.cells.size=ti.esize:=by rw[<-Array.length_toList,<-Yp _ _ hz,hz1]
   have core:∀ (t:Ty) (d:List t.den) (xs:List Value) (H1:List Entry),t.size=ti.esize->E.w.Vx 0 ti.elem t.size vs d.length xs->YZ (rep E.S E.w t) d xs->
     (∀ w',E.w.grownBy w' vs.ownBlock->Inv B ⟨E.S,w',E.ids⟩ H1/\E.le ⟨E.S,w',E.ids⟩)->
     (∀ g,vs.ownBlock=some g->¬E.S g/\(B.w.heap.size<=g\/B.io g)/\g<E.w.heap.size/\
      ∀ (j:Nat) (ej:Entry) (vj:Value),H1[j]?=some ej->ej.live=true->E.ids[j]?=some vj->¬Zev ej vj g)->
     (∀ (j:Nat) (ej:Entry) (vj:Value),H1[j]?=some ej->ej.live=true->E.ids[j]?=some vj->¬Zev ej vj E.w.heap.size)->
     ∀ (d':List t.den),ZvT E t d' vx->(d.length+d'.length)*ti.ebytes<=140737488355328->Zel ti.elem t (d++d') H1 K->
     ∃ u E' H' r,(Builtin.append_ #[T,T] ty #[vs,vx]).run P E.w=.ok u E'.w/\Inv B E' H'/\E.le E'/\den E' r u/\K r H'/\E.w.grownBy E'.w vs.ownBlock:=by
    intro t d xs H1 hts hown hreps hgrow hfree hnew d' hl hbytes hk;rcases hl with ⟨rfl,rfl⟩ | ⟨ad,c,news,rfl,hnl,hnc,hnr⟩
    ·have hr:=Zb0 (P:=P) (w:=E.w) 0 T ty ti.elem ie t.size hu hie vs d.length xs hown
     obtain ⟨hI1,hle1⟩:=hgrow E.w ⟨rfl,rfl,rfl,Nat.le_refl _,λ_ _ _=>rfl⟩;rw[List.append_nil] at hk;obtain ⟨E',H',r,hw,h1,h2,h3,h4⟩:=Zo7 hI1 hk hown hreps (λg hg=>hfree g (by rw[<-JG hown];exact hg));exact ⟨vs,E',H',r,by rw[hw];exact hr,h1,hle1.trans h2,h3,h4,by rw[hw];exact ⟨rfl,rfl,rfl,Nat.le_refl _,λ_ _ _=>rfl⟩⟩
    ·have h63:d.length+d'.length<=maxLen:=by
      have:=Nat.le_mul_of_pos_right (d.length+d'.length) hbpos;unfold maxLen;omega
     obtain ⟨v',w',hr,hown2,hgr,_⟩:=Zjd (P:=P) E.w 0 T ty ti.elem ie ti.ezero t.size ti.ebytes hu hie hzero (by rw[hsz,hts]) hby (by rw[hzs,hts]) (by omega) vs d.length xs hown
      ad d'.length c news hnl hnc (ZjV d' news hnr) h63 hbytes (Nat.zero_le _)
     have hblk:=ZhE (P:=P) E.w 0 T ty ti.elem ie ti.ezero t.size ti.ebytes hu hie hzero (by rw[hsz,hts]) hby (by rw[hzs,hts]) (by omega) vs d.length xs hown
      ad d'.length c news hnl hnc (ZjV d' news hnr) h63 hbytes hr
     obtain ⟨hI1,hle1⟩:=hgrow w' hgr;have hreps':=XT (R':=rep E.S w' t) (λd vs=>Z6 hle1.S hle1.w t d vs) _ _ hreps;have hnr':=XT (R':=rep E.S w' t) (λd vs=>Z6 hle1.S hle1.w t d vs) _ _ hnr;have hlt:∀ g,Yl v'=some g->g<w'.heap.size:=by
      intro g hg;rw[JG hown2] at hg;exact (hown2.lt g hg).2
     obtain ⟨E',H',r,hw,h1,h2,h3,h4⟩:=Zo7 hI1 hk (v:=v') (xs:=xs++news) (by grind) (Zfp _ _ _ _ hreps' hnr') (λg hg=>by
      rcases hblk with hb | hb | hb
      ·subst hb;simp[Yl] at hg
      ·grind
      ·rw[hb] at hg;simp at hg;subst hg
       exact ⟨λhS=>Nat.lt_irrefl _ (hI.Slt _ hS),.inl hI.keeps.size,hlt _ hb,hnew⟩)
     exact ⟨v',E',H',r,by rw[hw];exact hr,h1,hle1.trans h2,h3,h4,by rw[hw];exact hgr⟩
   split at hk
   ·rename_i id _hk0
    obtain ⟨en,he,hk⟩:=Yu H hk;split at hk
    ·rename_i et t d
     split at hk
     ·rename_i hcc
      obtain ⟨het,hts⟩:=hcc;subst het;simp only[den] at hs;obtain ⟨v',xs,e1,h2,h3⟩:=hI.ent id _ he;have:=hs.1.symm.trans e1;simp at this;subst this;have hob:=JG h2;have hnewH:∀ (j:Nat) (ej:Entry) (vj:Value),(H.set id .gone)[j]?=some ej->ej.live=true->E.ids[j]?=some vj->j≠id/\H[j]?=some ej:=by
       intro j ej vj hj hl hv;by_cases hji:id=j
       ·subst hji
        have hlt:id<H.length:=(List.getElem?_eq_some_iff.1 he).1;rw[List.getElem?_set_self hlt] at hj;simp at hj;subst hj;simp[Entry.live] at hl
       grind
      have main:=core t d xs (H.set id .gone) hts h2 h3
       (λw' hg=>⟨hI.write he rfl e1 (by rw[hob];exact hg) .gone trivial,Zbi hg hI.Slt (λg eg=>(hI.free id _ vs g he rfl e1 ((show Yl vs=some g by rw[hob];exact eg))).1)⟩)
       (λg eg=>by
        obtain ⟨a1,a2,a3⟩:=hI.free id _ vs g he rfl e1 ((show Yl vs=some g by rw[hob];exact eg));refine ⟨a1,a2,a3,λj ej vj hj hl hv hb=>?_⟩;obtain ⟨hne,hj'⟩:=hnewH j ej vj hj hl hv;exact hne (hI.sep j id ej _ vj vs g hj' he hl rfl hv e1 hb ((show Yl vs=some g by rw[hob];exact eg))))
       (λj ej vj hj hl hv hb=>by
        obtain ⟨hne,hj'⟩:=hnewH j ej vj hj hl hv;exact Nat.lt_irrefl _ (hI.free j ej vj _ hj' hl hv hb).2.2)
      rcases Zpf hI hx hk with ⟨t',d',hl,hk⟩ | ⟨rfl,hk⟩
      ·split at hk
       ·rename_i ht';subst ht'
        obtain ⟨hb,hk⟩:=hk;rw[YO] at hk;exact main d' hl hb hk
       ·exact hk.elim
      ·rw[YO] at hk
       have hle0:(d.length+([]:List t.den).length)*ti.ebytes<=140737488355328\/True:=.inr trivial;have hr:=Zb0 (P:=P) (w:=E.w) 0 T ty ti.elem ie t.size hu hie vs d.length xs h2;have hI1:=hI.drop id;obtain ⟨E',H',r,hw,h1,h2',h3',h4⟩:=Zo7 hI1 hk h2 h3 (λg eg=>by
        obtain ⟨a1,a2,a3⟩:=hI.free id _ vs g he rfl e1 eg;refine ⟨a1,a2,a3,λj ej vj hj hl hv hb=>?_⟩;obtain ⟨hne,hj'⟩:=hnewH j ej vj hj hl hv;exact hne (hI.sep j id ej _ vj vs g hj' he hl rfl hv e1 hb eg))
       exact ⟨vs,E',H',r,by rw[hw];exact hr,h1,h2',h3',h4,by rw[hw];exact ⟨rfl,rfl,rfl,Nat.le_refl _,λ_ _ _=>rfl⟩⟩
     ·exact hk.elim
    ·exact hk.elim
   ·simp only[den] at hs;subst hs
    split at hk
    ·rename_i hts
     have main:=core ti.ety [] [] H hts (World.ZgG _ _ _ _) rfl
      (λw' hg=>⟨hI.grow hg,Zbi hg hI.Slt (λg eg=>by simp[Value.ownBlock] at eg)⟩)
      (λg eg=>by simp[Value.ownBlock] at eg)
      (λj ej vj hj hl hv hb=>Nat.lt_irrefl _ (hI.free j ej vj _ hj hl hv hb).2.2)
     rcases Zpf hI hx hk with ⟨t',d',hl,hk⟩ | ⟨rfl,hk⟩
     ·split at hk
      ·rename_i ht';subst ht'
       exact main d' hl (by simpa using hk.1) hk.2
      ·exact hk.elim
     ·exact main [] (.inl ⟨rfl,rfl⟩) (by simp) hk
    ·exact hk.elim
   ·exact hk.elim
  ·exact hk.elim
 ·exact hk.elim
end
section
variable {P:Program}
def Zxz (ti:TI) (x:SV) (H:List Entry) (K:SV->Prop):Prop :=
 match ti.kind with
 | .sl=>match x with
  | .sl _ d=>K (.int .i64 (d.length:Int))
  | .nsl=>K (.int .i64 0)
  | .own id=>ZdW H id λe=>match e with
   | .arr _ _ d=>K (.int .i64 (d.length:Int))
   | .frz _ d=>K (.int .i64 (d.length:Int))
   | .darr _ _ d _=>K (.int .i64 (d.length:Int))
   | .hole _ _ d _ _ _=>K (.int .i64 (d.length:Int))
   | .spl _ _ d _ _=>K (.int .i64 (d.length:Int))
   | .hsp _ _ d _ _ _=>K (.int .i64 (d.length:Int))
   | _=>False
  | _=>False
 | .str=>match x with
  | .str s=>K (.int .i64 (s.length:Int))
  | _=>False
 | .arr n=>K (.int .i64 (n:Int))
 | _=>False
theorem ZaH.string {T:TypeId} {ti:TI} (h:ZaH P T ti) (hk:ti.kind=.str):P.underlying T=some .string:=by
 obtain ⟨d,hd,hk'⟩:=h.get;rw[hk] at hk';cases d<;>simp[ZqQ] at hk'
 exact hd
theorem ZaH.intOf {T:TypeId} {ti:TI} (h:ZaH P T ti) {k:IntKind} (hk:ti.kind=.int k):P.underlying T=some (.int k):=by
 obtain ⟨d,hd,hk'⟩:=h.get;rw[hk] at hk';cases d<;>simp[ZqQ] at hk'
 subst hk';exact hd
theorem Zt3 {B:Base} {E:Env} {H:List Entry} (hI:Inv B E H) {T ty:TypeId} {ti:TI} (h:ZaH P T ti) {x:SV} {v:Value} (hx:den E x v) {K:SV->Prop} (hk:Zxz ti x H K) :
  ∃ u s,Zmg P (Builtin.len_ #[T] ty #[v]) u/\den E s u/\K s:=by
 unfold Zxz at hk;have sl:∀ (a:Option Addr) (n c:Nat),ti.kind=.sl->v=.slice a n c->K (.int .i64 (n:Int))->∃ u s,Zmg P (Builtin.len_ #[T] ty #[v]) u/\den E s u/\K s:=by
  intro a n c hd hv hk;subst hv;have hu:=(h.slice hd).1;exact ⟨_,_,λw=>by simp[Builtin.len_,run_underlying hu];rfl,VB E .i64 n,hk⟩
 split at hk
 ·rename_i hd
  split at hk
  ·rename_i t d
   simp only[den] at hx;obtain ⟨a,cap,e1,_⟩:=hx;grind
  ·simp only[den] at hx
   grind
  ·rename_i id
   obtain ⟨en,he,hk⟩:=Yu H hk;simp only[den] at hx;split at hk
   ·rename_i et t d
    obtain ⟨v',xs,e1,h2,h3⟩:=hI.ent id _ he;have:=hx.1.symm.trans e1;simp at this;subst this;rcases h2.2 with ⟨rfl,hn⟩ | ⟨g,cap,cur,o,rfl,_⟩;all_goals grind
   ·rename_i t d
    obtain ⟨v',e1,h2⟩:=hI.ent id _ he;have:=hx.1.symm.trans e1;simp at this;subst this;obtain ⟨a,cap,e1,_⟩:=h2;grind
   ·rename_i et e d fp
    obtain ⟨v',xs,fps,e1,h2,h3⟩:=hI.ent id _ he;have:=hx.1.symm.trans e1;simp at this;subst this;rcases h2.2 with ⟨rfl,hn⟩ | ⟨g,cap,cur,o,rfl,_⟩;all_goals grind
   ·rename_i et e d j cs fp
    obtain ⟨v',xs,x1,vx,x2,f1,f2,e1,h2,h3⟩:=hI.ent id _ he;have:=hx.1.symm.trans e1;simp at this;subst this;rcases h2.2 with ⟨rfl,hn⟩ | ⟨g,cap,cur,o,rfl,_⟩;all_goals grind
   ·rename_i et e d n fp
    obtain ⟨v',e1,⟨xs,x1,x2,f1,h2,h3⟩,_⟩:=hI.ent id _ he;have:=hx.1.symm.trans e1;simp at this;subst this;rcases h2.2 with ⟨rfl,hn⟩ | ⟨g,cap,cur,o,rfl,_⟩;all_goals grind
   ·rename_i et e d j cs fp
    obtain ⟨v',xs,x1,vx,x2,f1,e1,h2,h3⟩:=hI.ent id _ he;have:=hx.1.symm.trans e1;simp at this;subst this;rcases h2.2 with ⟨rfl,hn⟩ | ⟨g,cap,cur,o,rfl,_⟩;all_goals grind
   ·exact hk.elim
  ·exact hk.elim
 ·rename_i hd
  split at hk
  ·rename_i s
   simp only[den] at hx;subst hx;refine ⟨_,_,?_,VB E .i64 s.length,hk⟩;have hu:=h.string hd;have hsz:(⟨s.toArray⟩:ByteArray).size=s.length:=by simp[ByteArray.size]
   intro w;simp only[Builtin.len_,List.getElem?_toArray,List.getElem?_cons_zero,Sem.run_bind,run_underlying hu,Result.andThen_ok,hsz];rfl
  ·exact hk.elim
 ·rename_i n hd
  refine ⟨_,_,?_,VB E .i64 n,hk⟩;have hu:=(h.array hd).1;intro w;cases v<;>simp[Builtin.len_,run_underlying hu,goInt]
 ·exact hk.elim
theorem ZsW (x y:Int):(if y<x then y else x)=min x y:=by omega
theorem ZsV (x y:Int):(if y > x then y else x)=max x y:=by omega
def ZuS (mx:Bool):SV->List SV->(SV->Prop)->Prop
 | s,[],K=>K s
 | .int k x,.int _ y::r,K=>ZuS mx (.int k (if mx then max x y else min x y)) r K
 | _,_::_,_=>False
theorem Zo1 {E:Env} {mx:Bool}:∀ (cs:List SV) (s:SV) (v:Value) (vs:List Value),den E s v->ZW E cs vs->∀ {K:SV->Prop},ZuS mx s cs K->
  ∃ u r,(∀ w,(vs.foldlM (if mx then Builtin.max2 else Builtin.min2) v).run P w=.ok u w)/\den E r u/\K r
 | [],s,v,vs,hs,hd,K,hk=>by
  match vs,hd with
  | [],_=>exact ⟨v,s,λ_=>rfl,hs,by cases s<;>exact hk⟩
  | _::_,hd=>simp[ZW] at hd
 | c::cs,s,v,vs,hs,hd,K,hk=>by
  match vs,hd with
  | [],hd=>simp[ZW] at hd
  | u::vs,hd =>
   simp only[ZW] at hd;unfold ZuS at hk;split at hk
   ·simp at *
   ·rename_i k x k' y r e1
    simp at e1;obtain ⟨rfl,rfl⟩:=e1;have hu:=hd.1;simp only[den] at hs hu;subst hs;subst hu;obtain ⟨u',r',h1,h2,h3⟩:=Zo1 cs _ (.int k (if mx then max x y else min x y)) vs (VB E k _) hd.2 hk;refine ⟨u',r',?_,h2,h3⟩;intro w;have h1:=h1 w;rw[List.foldlM_cons,Sem.run_bind];cases mx
    ·simp only[Bool.false_eq_true,if_false,Builtin.min2,ZsW,Sem.run_pure,Result.andThen_ok] at h1 ⊢;exact h1
    ·simp only[if_true,Builtin.max2,ZsV,Sem.run_pure,Result.andThen_ok] at h1 ⊢;exact h1
   ·exact hk.elim
def ZxO (s:SV) (i:Nat) (K:SV->Prop):Prop :=
 match s with
 | .tup cs=>Zkk cs i K
 | _=>False
theorem Zuj {E:Env} {s:SV} {v:Value} (hs:den E s v) {i:Nat} {K:SV->Prop} (hk:ZxO s i K):∃ u r,(∀ w,(Instr.extract v i).run P w=.ok u w)/\den E r u/\K r:=by
 unfold ZxO at hk;split at hk
 ·simp only[den] at hs
  obtain ⟨vs,rfl,hd⟩:=hs;obtain ⟨r,u,h1,h2,h3,_⟩:=Jv _ _ hd hk;exact ⟨u,r,λw=>by simp[Instr.extract,h1],h2,h3⟩
 ·exact hk.elim
def bytesOf (d:List Int):List UInt8:=d.map λn=>UInt8.ofNat n.toNat
def ZtR (ts td:TI) (x:SV) (H:List Entry) (K:SV->Prop):Prop :=
 match td.kind,x with
 | .int k,.int _ n=>K (.int k (k.wrap n))
 | .str,.str s=>K (.str s)
 | _,_=>False
theorem Zsu {E:Env} {H:List Entry} {S T:TypeId} {ts td:TI} (hs:ZaH P S ts) (ht:ZaH P T td) {x:SV} {v:Value} (hx:den E x v) {K:SV->Prop} (hk:ZtR ts td x H K) :
  ∃ u s,(∀ w,(convert S T v).run P w=.ok u w)/\den E s u/\K s:=by
 unfold ZtR at hk;obtain ⟨ds,h1,_⟩:=hs.get;split at hk
 ·rename_i k k' n hd
  simp only[den] at hx;subst hx;refine ⟨_,_,?_,VB E k _,hk⟩;have h2:=ht.intOf hd;intro w;unfold convert;rw[Sem.run_bind,run_underlying h1,Result.andThen_ok,Sem.run_bind,run_underlying h2,Result.andThen_ok];cases ds<;>rfl
 ·rename_i s hd
  simp only[den] at hx;subst hx;refine ⟨_,_,?_,Zjp E s,hk⟩;have h2:=ht.string hd;intro w;unfold convert;rw[Sem.run_bind,run_underlying h1,Result.andThen_ok,Sem.run_bind,run_underlying h2,Result.andThen_ok];cases ds<;>rfl
 ·exact hk.elim
def Zq9 (te:TI) (x:SV) (H:List Entry) (K:SV->Prop):Prop :=
 match te.kind with
 | .int .u8=>Zu0 x H (λt d=>if h:t=.int .u8 then Zqh h d λd'=>K (.str (bytesOf d')) else False) (K (.str []))
 | _=>False
theorem Zke {S:Nat->Prop} {w:World}:∀ (d:List Int) (xs:List Value),YZ (rep S w (.int .u8)) d xs->xs=d.map (Value.int .u8)
 | [],xs,h=>by cases h;rfl
 | n::d,_,⟨v1,v2,e,h1,h2⟩=>by
  have:=Zke d v2 h2;subst e;subst this;have h1':v1=[.int .u8 n]:=h1;subst h1';rfl
theorem Zlc:∀ (d:List Int) (s:List UInt8),d.foldl (λ(r:ByteArray) n=>r.push (UInt8.ofNat n.toNat)) (⟨s.toArray⟩:ByteArray)=⟨(s++bytesOf d).toArray⟩
 | [],s=>by simp[bytesOf]
 | n::d,s=>by
  have h:=Zlc d (s++[UInt8.ofNat n.toNat]);have e:(⟨s.toArray⟩:ByteArray).push (UInt8.ofNat n.toNat)=⟨(s++[UInt8.ofNat n.toNat]).toArray⟩:=by
   simp[ByteArray.push]
  rw[List.foldl_cons,e,h];simp[bytesOf]
theorem Zra {B:Base} {E:Env} {H:List Entry} (hI:Inv B E H) {S T:TypeId} {ts td te:TI} (hs:ZaH P S ts) (hks:ts.kind=.sl) (ht:ZaH P T td) (hkt:td.kind=.str) (hte:ZaH P ts.elem te) {x:SV} {v:Value} (hx:den E x v)
  {K:SV->Prop} (hk:Zq9 te x H K):∃ u s,(convert S T v).run P E.w=.ok u E.w/\den E s u/\K s:=by
 unfold Zq9 at hk;split at hk
 ·rename_i hke
  obtain ⟨hu,_⟩:=hs.slice hks;have he:=hte.intOf hke;have hstr:=ht.string hkt;have nil:v=.slice none 0 0->(convert S T v).run P E.w=.ok (.string ⟨([]:List UInt8).toArray⟩) E.w:=by
   rintro rfl;rw[run_convert_bytes_string _ _ _ _ _ _ _ hu he hstr];rfl
  rcases Zpf hI hx hk with ⟨t,d,hl,hk⟩ | ⟨hv,hk⟩
  ·split at hk
   ·rename_i hte';subst hte'
    rw[Zpn] at hk;rcases hl with ⟨hv,hd⟩ | ⟨ad,c,xs,hv,hlen,hc,hr⟩
    ·subst hd
     exact ⟨_,_,nil hv,Zjp E _,hk⟩
    ·have hxs:=Zke _ _ hr
     subst hv;refine ⟨_,_,?_,Zjp E _,hk⟩;rw[run_convert_bytes_string _ _ _ _ _ _ _ hu he hstr];have hload:=run_loadCells_list (P:=P) E.w ad xs hc;have hl1:xs.length=d.length:=by grind
     rw[hl1,hxs] at hload;rw[run_bytesToString _ _ _ _ _ hload];have hf:=Zlc d [];rw[List.nil_append] at hf;rw[<-hf];rfl
   ·exact hk.elim
  ·exact ⟨_,_,nil hv,Zjp E _,hk⟩
 ·exact hk.elim
def int64?:SV->Option Int
 | .int .i64 n=>some n
 | _=>none
def Zoc:List SV->Option (List Int)
 | []=>some []
 | c::r=>match int64? c,Zoc r with
  | some n,some l=>some (n::l)
  | _,_=>none
theorem ZsJ {c:SV} {n:Int} (h:int64? c=some n):c=.int .i64 n:=by
 unfold int64? at h;grind
theorem Zod {E:Env}:∀ (cs:List SV) {l:List Int},Zoc cs=some l->∀ vs,ZW E cs vs->vs=l.map (λn=>Value.int .i64 n)
 | [],l,h,vs,hd=>by
  simp only[Zoc,Option.some.injEq] at h;subst h;cases vs with
  | nil=>rfl
  | cons v vs=>simp[ZW] at hd
 | c::cs,l,h,vs,hd=>by
  cases vs with
  | nil=>simp[ZW] at hd
  | cons v vs =>
   simp only[ZW] at hd;obtain ⟨h1,h2⟩:=hd;unfold Zoc at h;split at h
   ·rename_i n l' e1 e2
    injection h with h
    subst h;have:=ZsJ e1;subst this;simp only[den] at h1;subst h1;rw[Zod cs e2 vs h2];rfl
   ·cases h
def Zsa (ti:TI) (s si:SV) (K:SV->Prop):Prop :=
 match ti.kind,s,si with
 | .str,.str l,.int _ i=>ZfR l i λc=>K (.int .u8 (c.toNat:Int))
 | .arr n,.agg cs,.int _ i=>match Zoc cs with
  | some l=>if (!ti.eagg&&ti.esize == 1&&l.length == n)=true then ZfR l i λc=>K (.int .i64 c) else False
  | none=>False
 | _,_,_=>False
theorem Zsb {E:Env} {T:TypeId} {ti:TI} (h:ZaH P T ti) {s si:SV} {v vi:Value} (hs:den E s v) (hsi:den E si vi) {K:SV->Prop} (hk:Zsa ti s si K) :
  ∃ u r,(∀ w,(Instr.index T v vi).run P w=.ok u w)/\den E r u/\K r:=by
 unfold Zsa at hk;split at hk
 ·rename_i l k i hd
  simp only[den] at hs hsi;subst hs;subst hsi;obtain ⟨h0,h1,h2⟩:=hk;obtain ⟨c,hc⟩:∃ c,l[i.toNat]?=some c:=⟨_,List.getElem?_eq_getElem (by omega)⟩;refine ⟨_,_,?_,VB E .u8 _,h2 c hc⟩;have hu:=h.string hd;have hlt:i.toNat<(⟨l.toArray⟩:ByteArray).size:=by simp[ByteArray.size];omega
  have hb:(⟨l.toArray⟩:ByteArray)[i.toNat]?=some c:=by
   have hx:(⟨l.toArray⟩:ByteArray)[i.toNat]'hlt=c:=by
    have:=(List.getElem?_eq_some_iff.1 hc).2;rw[<-this];rfl
   grind
  intro w;simp[Instr.index,asIntOf,run_underlying hu,h0,hb]
 ·rename_i n cs k i hd
  simp only[den] at hs hsi;obtain ⟨vs,rfl,hds⟩:=hs;subst hsi;split at hk
  ·rename_i l hl
   split at hk
   ·rename_i hq
    simp only[Bool.and_eq_true,Bool.not_eq_true',beq_iff_eq] at hq;obtain ⟨⟨hea,hes⟩,hln⟩:=hq;have hv:=Zod cs hl vs hds;obtain ⟨h0,h1,h2⟩:=hk;obtain ⟨c,hc⟩:∃ c,l[i.toNat]?=some c:=⟨_,List.getElem?_eq_getElem (by omega)⟩;refine ⟨_,_,?_,VB E .i64 c,h2 c hc⟩;obtain ⟨hu,hag,inf,hi,hsz,_,_⟩:=h.array hd;have hagg:∀ w,(isAgg ti.elem).run P w=.ok false w:=by
     intro w;cases hud:P.underlying ti.elem with
     | none=>simp[hud] at hag
     | some d =>
      rw[hud] at hag;have hag:ZeS d=ti.eagg:=by simpa using hag
      rw[hea] at hag;unfold isAgg;rw[Sem.run_bind,run_underlying hud];simp only[Result.andThen_ok,<-hag];cases d<;>rfl
    have hcell:vs[i.toNat*inf.size]?=some (.int .i64 c):=by
     grind
    have h1':i<(n:Int):=by omega
    intro w;simp[Instr.index,asIntOf,run_underlying hu,h0,h1',part,hagg,run_sizeOf hi,hcell]
   ·exact hk.elim
  ·exact hk.elim
 ·exact hk.elim
def ZdT (regs:List SV) (o:Option Operand) (dflt:Int) (K:Int->Prop):Prop :=
 match o with
 | none=>K dflt
 | some x=>QK regs x λs=>match s with
  | .int _ n=>K n
  | _=>False
def Zou (ti:TI) (regs:List SV) (x:SV) (lo hi:Option Operand) (H:List Entry) (K:SV->List Entry->Prop):Prop :=
 match ti.kind with
 | .sl=>match x with
  | .sl t d=>if t.size=ti.esize then ZdT regs lo 0 λl=>ZdT regs hi d.length λh=>0<=l/\l<=h/\h<=(d.length:Int)/\K (.sl t ((d.drop l.toNat).take (h.toNat-l.toNat))) H else False
  | .own id=>ZdW H id λe=>match e with
   | .arr _ t d=>if t.size=ti.esize then ZdT regs lo 0 λl=>ZdT regs hi d.length λh=>0<=l/\l<=h/\h<=(d.length:Int)/\
     ZeR H id (.frz t d) λH'=>K (.sl t ((d.drop l.toNat).take (h.toNat-l.toNat))) H' else False
   | .frz t d=>if t.size=ti.esize then ZdT regs lo 0 λl=>ZdT regs hi d.length λh=>0<=l/\l<=h/\h<=(d.length:Int)/\K (.sl t ((d.drop l.toNat).take (h.toNat-l.toNat))) H else False
   | _=>False
  | .nsl=>ZdT regs lo 0 λl=>ZdT regs hi 0 λh=>l=0/\h=0/\K .nsl H
  | _=>False
 | .str=>match x with
  | .str s=>ZdT regs lo 0 λl=>ZdT regs hi s.length λh=>0<=l/\l<=h/\h<=(s.length:Int)/\K (.str ((s.drop l.toNat).take (h.toNat-l.toNat))) H
  | _=>False
 | _=>False
theorem VR {E:Env} {regs:List SV} {a:Act} (hd:ZW E regs a.tmps.toList) {o:Option Operand} {dflt:Int} {K:Int->Prop} (h:ZdT regs o dflt K) :
  ∃ n,K n/\(o=none/\n=dflt\/∃ k,o.map a.eval=some (.int k n)):=by
 unfold ZdT at h;split at h
 ·grind
 ·rename_i x
  obtain ⟨s,hs,h⟩:=Z8 hd h;split at h
  ·rename_i k n
   simp only[den] at hs;grind
  ·exact h.elim
theorem run_sliceBound (w:World) (k:IntKind) (n:Int) (y:Nat) (c:BoundsCode) (h0:0<=n) (h1:n<=(y:Int)):(Instr.sliceBound (.int k n) y c).run P w=.ok n.toNat w:=by
 have:0<=n/\n<=(y:Int):=⟨h0,h1⟩;simp[Instr.sliceBound,asIntOf,this]
theorem Zbz (w:World) (sl:Bool) (len cap:Nat) (lo hi:Option Value) (l h:Int) (h0:0<=l) (h1:l<=h) (h2:h<=(cap:Int))
  (hl:lo=none/\l=0\/∃ k,lo=some (.int k l)) (hh:hi=none/\h=(len:Int)\/∃ k,hi=some (.int k h)) :
  (Instr.sliceBounds sl len cap lo hi none).run P w=.ok (l.toNat,h.toNat,cap) w:=by
 have e1:∀ c,(match hi with | some v=>Instr.sliceBound v cap c | none=>pure len:Sem Nat).run P w=.ok h.toNat w:=by
  intro c;rcases hh with ⟨rfl,rfl⟩ | ⟨k,rfl⟩
  ·simp
  ·exact run_sliceBound w k h cap _ (by omega) h2
 have e2:∀ c,(match lo with | some v=>Instr.sliceBound v h.toNat c | none=>pure 0:Sem Nat).run P w=.ok l.toNat w:=by
  intro c;rcases hl with ⟨rfl,rfl⟩ | ⟨k,rfl⟩
  ·simp
  ·exact run_sliceBound w k l _ _ h0 (by omega)
 rcases hh with ⟨rfl,rfl⟩ | ⟨k,rfl⟩
 ·rcases hl with ⟨rfl,rfl⟩ | ⟨k',rfl⟩
  ·simp[Instr.sliceBounds]
  ·simp[Instr.sliceBounds,run_sliceBound w k' l _ _ h0 h1]
 ·have a1:=run_sliceBound (P:=P) w k h cap (if sl then .sliceAcap else .sliceAlen) (by omega) h2
  rcases hl with ⟨rfl,rfl⟩ | ⟨k',rfl⟩
  ·simp[Instr.sliceBounds,a1]
  ·have a2:=run_sliceBound (P:=P) w k' l h.toNat .sliceB h0 (by omega)
   simp[Instr.sliceBounds,a1,a2]
theorem Zs6 {S:Nat->Prop} {w:World} {t:Ty} {d:List t.den} {a:Option Addr} {n cap:Nat} (h:rep S w (.sl t) d [.slice a n cap]) (l h':Nat) (h1:l<=h') (h2:h'<=d.length) :
  n=d.length/\d.length<=cap/\rep S w (.sl t) ((d.drop l).take (h'-l)) [.slice (if cap=l then a else a.map (·.add (l*t.size))) (h'-l) (cap-l)]:=by
 obtain ⟨a',cap',e1,hle,hn,h3⟩:=h;simp at e1;obtain ⟨rfl,rfl,rfl⟩:=e1;refine ⟨rfl,hle,?_⟩;have hlen:((d.drop l).take (h'-l)).length=h'-l:=by simp;omega
 refine ⟨_,cap-l,by rw[hlen],by rw[hlen];omega,λe=>?_,?_⟩
 ·split at e
  all_goals simp_all
 ·by_cases he:h'=l
  ·simp_all
  ·rcases h3 with h3 | ⟨p,xs,rfl,hp,hS,hc,hr⟩
   ·grind
   ·refine .inr ⟨p.add (l*t.size),(xs.drop (l*t.size)).take ((h'-l)*t.size),?_,Znd _ _ hp,by rw[add_block];exact hS,λj u hu=>?_,?_⟩
    ·grind
    ·rw[add_add _ _ _ hp]
     grind
    ·have:=Zil (λd vs=>YV t d vs) _ _ hr l
     exact Zim (λd vs=>YV t d vs) _ _ this (h'-l)
theorem Zl4 {B:Base} {E:Env} {H:List Entry} (hI:Inv B E H) {regs:List SV} {a:Act} (hd:ZW E regs a.tmps.toList) {T:TypeId} {ti:TI} (h:ZaH P T ti) {x:SV} {v:Value} (hx:den E x v)
  {lo hi:Option Operand} {K:SV->List Entry->Prop} (hk:Zou ti regs x lo hi H K) :
  ∃ u E' H' s,(Instr.sliceAt T v (lo.map a.eval) (hi.map a.eval) none).run P E.w=.ok u E'.w/\Inv B E' H'/\E.le E'/\den E' s u/\K s H'/\Grow E.w E'.w:=by
 unfold Zou at hk;have cvt:∀ {o:Option Operand} {n d:Int},(o=none/\n=d\/∃ k,o.map a.eval=some (.int k n))->(o.map a.eval=none/\n=d\/∃ k,o.map a.eval=some (.int k n)):=by
  grind
 have core:ti.kind=.sl->∀ (E1:Env) (t:Ty) (d:List t.den),t.size=ti.esize->rep E1.S E1.w (.sl t) d [v]->∀ l h:Int,0<=l->l<=h->h<=(d.length:Int)->
   (lo.map a.eval=none/\l=0\/∃ k,lo.map a.eval=some (.int k l))->(hi.map a.eval=none/\h=(d.length:Int)\/∃ k,hi.map a.eval=some (.int k h))->
   ∃ u,(Instr.sliceAt T v (lo.map a.eval) (hi.map a.eval) none).run P E1.w=.ok u E1.w/\den E1 (.sl t ((d.drop l.toNat).take (h.toNat-l.toNat))) u:=by
  intro hdd E1 t d hts hr l h' h0 h1 h2 hl hh;obtain ⟨hu,_,ie,hie,hsz,_⟩:=h.slice hdd;obtain ⟨a0,cap,e1,hle,hn,h3⟩:=hr;simp at e1;subst e1;obtain ⟨_,_,hrp⟩:=Zs6 (⟨a0,cap,rfl,hle,hn,h3⟩:rep E1.S E1.w (.sl t) d [.slice a0 d.length cap]) l.toNat h'.toNat (by omega) (by omega);refine ⟨.slice (if cap=l.toNat then a0 else a0.map (·.add (l.toNat*ie.size))) (h'.toNat-l.toNat) (cap-l.toNat),?_,?_⟩
  ·simp only[Instr.sliceAt,Instr.slice,Sem.run_bind,run_underlying hu,Result.andThen_ok]
   rw[Zbz E1.w true d.length cap _ _ l h' h0 h1 (by omega) hl hh];simp only[Result.andThen_ok,run_sizeOf hie];rfl
  ·simp only[den]
   grind
 split at hk
 ·rename_i hdd
  split at hk
  ·rename_i t d
   split at hk
   ·rename_i hts
    obtain ⟨l,hk,hl⟩:=VR hd hk;obtain ⟨h',hk,hh⟩:=VR hd hk;obtain ⟨h0,h1,h2,hk⟩:=hk;simp only[den] at hx;obtain ⟨u,hr,hden⟩:=core hdd E t d hts hx l h' h0 h1 h2 (cvt hl) (cvt hh);exact ⟨u,E,H,_,hr,hI,Env.le.refl E,hden,hk,Grow.refl _⟩
   ·exact hk.elim
  ·rename_i id
   obtain ⟨en,he,hk⟩:=Yu H hk;simp only[den] at hx;split at hk
   ·rename_i et t d
    split at hk
    ·rename_i hts
     obtain ⟨l,hk,hl⟩:=VR hd hk;obtain ⟨h',hk,hh⟩:=VR hd hk;obtain ⟨h0,h1,h2,hk⟩:=hk;rw[YO] at hk;obtain ⟨S',hle,hI',hr,_⟩:=hI.freeze he hx.1;obtain ⟨u,hrun,hden⟩:=core hdd ⟨S',E.w,E.ids⟩ t d hts hr l h' h0 h1 h2 (cvt hl) (cvt hh);exact ⟨u,_,_,_,hrun,hI',hle,hden,hk,Grow.refl _⟩
    ·exact hk.elim
   ·rename_i t d
    split at hk
    ·rename_i hts
     obtain ⟨l,hk,hl⟩:=VR hd hk;obtain ⟨h',hk,hh⟩:=VR hd hk;obtain ⟨h0,h1,h2,hk⟩:=hk;obtain ⟨v',e1,hr⟩:=hI.ent id _ he;have:=hx.1.symm.trans e1;simp at this;subst this;obtain ⟨u,hrun,hden⟩:=core hdd E t d hts hr l h' h0 h1 h2 (cvt hl) (cvt hh);exact ⟨u,E,H,_,hrun,hI,Env.le.refl E,hden,hk,Grow.refl _⟩
    ·exact hk.elim
   ·exact hk.elim
  ·obtain ⟨l,hk,hl⟩:=VR hd hk
   obtain ⟨h',hk,hh⟩:=VR hd hk;obtain ⟨rfl,rfl,hk⟩:=hk;simp only[den] at hx;subst hx;obtain ⟨hu,_,ie,hie,hsz,_⟩:=h.slice hdd;refine ⟨.slice none 0 0,E,H,.nsl,?_,hI,Env.le.refl E,by simp only[den],hk,Grow.refl _⟩;simp only[Instr.sliceAt,Instr.slice,Sem.run_bind,run_underlying hu,Result.andThen_ok];rw[Zbz E.w true 0 0 _ _ 0 0 (by omega) (by omega) (by omega) (cvt hl) (cvt hh)];simp[run_sizeOf hie]
  ·exact hk.elim
 ·rename_i hdd
  split at hk
  ·rename_i s
   obtain ⟨l,hk,hl⟩:=VR hd hk;obtain ⟨h',hk,hh⟩:=VR hd hk;obtain ⟨h0,h1,h2,hk⟩:=hk;simp only[den] at hx;subst hx;have hu:=h.string hdd;have hsz:(⟨s.toArray⟩:ByteArray).size=s.length:=by simp[ByteArray.size]
   refine ⟨_,E,H,_,?_,hI,Env.le.refl E,Zjp E _,hk,Grow.refl _⟩;simp only[Instr.sliceAt,Instr.slice,Sem.run_bind,run_underlying hu,Result.andThen_ok,Option.isSome_none,Bool.false_eq_true,if_false,hsz];rw[Zbz E.w false s.length s.length _ _ l h' h0 h1 h2 (cvt hl) (cvt hh)];simp only[Result.andThen_ok,Sem.run_pure];congr 2;apply ByteArray.ext;simp[ByteArray.data_extract,List.extract_toArray,List.extract_eq_take_drop]
  ·exact hk.elim
 ·exact hk.elim
end
theorem ZjT {S:Nat->Prop} {w:World} {t:Ty}:∀ (l:List t.den) (xs:List Value) (fp:List Nat),Jf (ZeQ S w (.flat t)) l xs fp->fp=[]/\YZ (rep S w t) l xs
 | [],xs,fp,h=>⟨h.2,h.1⟩
 | d::l,xs,fp,⟨v1,v2,f1,f2,e,ef,r,rs⟩=>by
  obtain ⟨h1,h2⟩:=ZjT l v2 f2 rs;have h3:f1=[]:=r.1;exact ⟨by rw[ef,h1,h3];rfl,v1,v2,e,r.2,h2⟩
theorem Zkd {S:Nat->Prop} {w:World} {t:Ty}:∀ (l:List t.den) (xs:List Value),YZ (rep S w t) l xs->Jf (ZeQ S w (.flat t)) l xs []
 | [],xs,h=>⟨h,rfl⟩
 | d::l,xs,⟨v1,v2,e,r,rs⟩=>⟨v1,v2,[],[],e,rfl,⟨rfl,r⟩,Zkd l v2 rs⟩
def XO:(e:Dp)->e.ty.den->List Entry->(List SV->List Entry->Prop)->Prop
 | .flat t,x,H,K=>XA t x λcs=>K cs H
 | .ol et (.flat t),l,H,K=>Zel et t l H λs H'=>K [s] H'
 | .ol et (.ol et2 e),l,H,K=>∀ fp:List Nat,ZoX H 0 λn=>ZnV H [.darr et (.ol et2 e) l fp] λH'=>K [.own n] H'
 | .ol et (.pair a b),l,H,K=>∀ fp:List Nat,ZoX H 0 λn=>ZnV H [.darr et (.pair a b) l fp] λH'=>K [.own n] H'
 | .ol et (.mp k v),l,H,K=>∀ fp:List Nat,ZoX H 0 λn=>ZnV H [.darr et (.mp k v) l fp] λH'=>K [.own n] H'
 | .mp k v,d,H,K=>ZoX H 0 λn=>ZnV H [.mpe k v d] λH'=>K [.mown n] H'
 | .pair a b,d,H,K=>ZT d λx y=>XO a x H λc1 H1=>XO b y H1 λc2 H2=>ZnV c1 c2 λcs=>K cs H2
theorem ZlU {E:Env} {id:Nat} {et:TypeId} {sz n:Nat} {v:Value} {xs:List Value} (h:E.ids[id]?=some v) (ho:E.w.Vx 0 et sz v n xs):den E (.own id) v:=by
 simp only[den];refine ⟨h,?_⟩;rcases ho.2 with ⟨rfl,_⟩ | ⟨g,cap,cur,o,rfl,_⟩
 ·exact ⟨_,_,_,rfl⟩
 ·exact ⟨_,_,_,rfl⟩
theorem Qv {B:Base}:∀ (e:Dp) (x:e.ty.den) {E:Env} {H:List Entry} (_:Inv B E H) {vs:List Value} {f gs:List Nat} (_:ZeQ E.S E.w e x vs f) (_:Loose B E H (f++gs)) {K:List SV->List Entry->Prop} (_:XO e x H K),
  ∃ E' H' cs,E'.w=E.w/\E'.S=E.S/\Inv B E' H'/\E.le E'/\ZW E' cs vs/\K cs H'/\Loose B E' H' gs/\∃ l,H'=H++l
 | .flat t,x,E,H,hI,vs,f,gs,⟨e1,hr⟩,hL,K,hk=>by
  simp only[XO,Y0] at hk;subst e1;exact ⟨E,H,_,rfl,rfl,hI,Env.le.refl E,YI t x vs hr,hk,hL,[],by simp⟩
 | .ol et (.flat t),l,E,H,hI,vs,f,gs,⟨v,xs,fps,e1,ho,hr,e2⟩,hL,K,hk=>by
  simp only[XO,Zel,Zaj,Jc,Nat.zero_add] at hk;obtain ⟨h1,h2⟩:=ZjT _ _ _ hr;have hid:(E.ids++[v])[H.length]?=some v:=by rw[<-hI.len];simp
  obtain ⟨hI',hL'⟩:=hL.push hI v (.arr et t l) (λ_ g hg=>by
   have hg:Yl v=some g:=hg;rw[e2];simp[hg]) ⟨v,xs,hid,ho,h2⟩
  exact ⟨⟨E.S,E.w,E.ids++[v]⟩,_,_,rfl,rfl,hI',Zhv E v,by subst e1;exact ⟨ZlU hid ho,trivial⟩,hk,hL',_,rfl⟩
 | .ol et (.ol et2 e),l,E,H,hI,vs,f,gs,⟨v,xs,fps,e1,ho,hr,e2⟩,hL,K,hk=>by
  simp only[XO] at hk;have hk:=hk f;simp only[Zaj,Jc,Nat.zero_add] at hk;have hid:(E.ids++[v])[H.length]?=some v:=by rw[<-hI.len];simp
  obtain ⟨hI',hL'⟩:=hL.push hI v (.darr et (.ol et2 e) l f) (λ_ g hg=>hg) ⟨v,xs,fps,hid,ho,hr,e2,(List.nodup_append.1 hL.nodup).1⟩;exact ⟨⟨E.S,E.w,E.ids++[v]⟩,_,_,rfl,rfl,hI',Zhv E v,by subst e1;exact ⟨ZlU hid ho,trivial⟩,hk,hL',_,rfl⟩
 | .ol et (.pair a b),l,E,H,hI,vs,f,gs,⟨v,xs,fps,e1,ho,hr,e2⟩,hL,K,hk=>by
  simp only[XO] at hk;have hk:=hk f;simp only[Zaj,Jc,Nat.zero_add] at hk;have hid:(E.ids++[v])[H.length]?=some v:=by rw[<-hI.len];simp
  obtain ⟨hI',hL'⟩:=hL.push hI v (.darr et (.pair a b) l f) (λ_ g hg=>hg) ⟨v,xs,fps,hid,ho,hr,e2,(List.nodup_append.1 hL.nodup).1⟩;exact ⟨⟨E.S,E.w,E.ids++[v]⟩,_,_,rfl,rfl,hI',Zhv E v,by subst e1;exact ⟨ZlU hid ho,trivial⟩,hk,hL',_,rfl⟩
 | .ol et (.mp kt vt),l,E,H,hI,vs,f,gs,⟨v,xs,fps,e1,ho,hr,e2⟩,hL,K,hk=>by
  simp only[XO] at hk;have hk:=hk f;simp only[Zaj,Jc,Nat.zero_add] at hk;have hid:(E.ids++[v])[H.length]?=some v:=by rw[<-hI.len];simp
  obtain ⟨hI',hL'⟩:=hL.push hI v (.darr et (.mp kt vt) l f) (λ_ g hg=>hg) ⟨v,xs,fps,hid,ho,hr,e2,(List.nodup_append.1 hL.nodup).1⟩;exact ⟨⟨E.S,E.w,E.ids++[v]⟩,_,_,rfl,rfl,hI',Zhv E v,by subst e1;exact ⟨ZlU hid ho,trivial⟩,hk,hL',_,rfl⟩
 | .mp kt vt,d,E,H,hI,vs,f,gs,⟨b,es,clk,e1,e2,hh,hr⟩,hL,K,hk=>by
  simp only[XO,Zaj,Jc,Nat.zero_add] at hk;have hid:(E.ids++[(.map (some b):Value)])[H.length]?=some (.map (some b)):=by rw[<-hI.len];simp
  obtain ⟨hI',hL'⟩:=hL.push hI (.map (some b)) (.mpe kt vt d) (λ_ g hg=>by
   have hg:Yl (.map (some b))=some g:=hg;simp[Yl] at hg;rw[e2];simp[hg]) ⟨b,es,clk,hid,hh,hr⟩
  exact ⟨⟨E.S,E.w,E.ids++[.map (some b)]⟩,_,_,rfl,rfl,hI',Zhv E _,by subst e1;exact ⟨by simp only[den];exact ⟨hid,_,rfl⟩,trivial⟩,hk,hL',_,rfl⟩
 | .pair a b,d,E,H,hI,vs,f,gs,⟨v1,v2,f1,f2,e1,e2,h1,h2⟩,hL,K,hk=>by
  simp only[XO,Qm] at hk;subst e1;subst e2;rw[List.append_assoc] at hL;obtain ⟨E1,H1,c1,hw1,hS1,hI1,hle1,hd1,hk,hL1,l1,hl1⟩:=Qv a d.1 hI h1 hL hk;have h2':ZeQ E1.S E1.w b d.2 v2 f2:=by rw[hS1,hw1];exact h2
  obtain ⟨E2,H2,c2,hw2,hS2,hI2,hle2,hd2,hk,hL2,l2,hl2⟩:=Qv b d.2 hI1 h2' hL1 hk;rw[Jc] at hk;exact ⟨E2,H2,_,hw2.trans hw1,hS2.trans hS1,hI2,hle1.trans hle2,Jt _ _ (ZA hle2 _ _ hd1) _ _ hd2,hk,hL2,l1++l2,by rw[hl2,hl1,List.append_assoc]⟩
def Zua (et:TypeId):(e:Dp)->Nat->List e.ty.den->List Entry->(List Entry->Prop)->Prop
 | .flat t,id,d,H,K=>ZeR H id (.arr et t d) K
 | .ol et2 e,id,d,H,K=>∀ fp:List Nat,ZeR H id (.darr et (.ol et2 e) d fp) K
 | .pair a b,id,d,H,K=>∀ fp:List Nat,ZeR H id (.darr et (.pair a b) d fp) K
 | .mp k v,id,d,H,K=>∀ fp:List Nat,ZeR H id (.darr et (.mp k v) d fp) K
theorem ZrX {B:Base} {et:TypeId}:∀ (e:Dp) {E:Env} {H:List Entry} (_:Inv B E H) {id:Nat} {v:Value} (_:id<H.length) (_:E.ids[id]?=some v) {d:List e.ty.den} {f gs:List Nat} (_:ZeQ E.S E.w (.ol et e) d [v] f) (_:Loose B E H (f++gs)) {K:List Entry->Prop} (_:Zua et e id d H K),
  ∃ e1,Inv B E (H.set id e1)/\Loose B E (H.set id e1) gs/\K (H.set id e1)/\(∀ c,e1≠.box c)
 | .flat t,E,H,hI,id,v,hlt,hv,d,f,gs,⟨v',xs,fps,ev,ho,hr,ef⟩,hL,K,hk=>by
  simp only[Zua,YO] at hk;simp at ev;subst ev;obtain ⟨h1,h2⟩:=ZjT _ _ _ hr;obtain ⟨a,b⟩:=hL.put hI hlt hv (.arr et t d) (λ_ g hg=>by
   have hg:Yl v=some g:=hg;rw[ef];simp[hg]) ⟨v,xs,hv,ho,h2⟩
  exact ⟨_,a,b,hk,λc h=>by cases h⟩
 | .ol et2 e,E,H,hI,id,v,hlt,hv,d,f,gs,⟨v',xs,fps,ev,ho,hr,ef⟩,hL,K,hk=>by
  simp only[Zua] at hk;have hk:=hk f;rw[YO] at hk;simp at ev;subst ev;obtain ⟨a,b⟩:=hL.put hI hlt hv (.darr et (.ol et2 e) d f) (λ_ g hg=>hg) ⟨v,xs,fps,hv,ho,hr,ef,(List.nodup_append.1 hL.nodup).1⟩;exact ⟨_,a,b,hk,λc h=>by cases h⟩
 | .mp kt vt,E,H,hI,id,v,hlt,hv,d,f,gs,⟨v',xs,fps,ev,ho,hr,ef⟩,hL,K,hk=>by
  simp only[Zua] at hk;have hk:=hk f;rw[YO] at hk;simp at ev;subst ev;obtain ⟨x,y⟩:=hL.put hI hlt hv (.darr et (.mp kt vt) d f) (λ_ g hg=>hg) ⟨v,xs,fps,hv,ho,hr,ef,(List.nodup_append.1 hL.nodup).1⟩;exact ⟨_,x,y,hk,λc h=>by cases h⟩
 | .pair a b,E,H,hI,id,v,hlt,hv,d,f,gs,⟨v',xs,fps,ev,ho,hr,ef⟩,hL,K,hk=>by
  simp only[Zua] at hk;have hk:=hk f;rw[YO] at hk;simp at ev;subst ev;obtain ⟨x,y⟩:=hL.put hI hlt hv (.darr et (.pair a b) d f) (λ_ g hg=>hg) ⟨v,xs,fps,hv,ho,hr,ef,(List.nodup_append.1 hL.nodup).1⟩;exact ⟨_,x,y,hk,λc h=>by cases h⟩
def ZoK {e' e:Dp} (h:e'=e) (d:List e'.ty.den) (K:List e.ty.den->Prop):Prop:=Eq.rec (motive:=λe _=>(List e.ty.den->Prop)->Prop) (λK=>K d) h K
theorem ZgA {e' e:Dp} (h:e'=e) (d:List e'.ty.den) (K:List e.ty.den->Prop):ZoK h d K=K (h▸d):=by subst h;rfl
def Zow:Nat->List SV->(List SV->List SV->Prop)->Prop
 | 0,cs,K=>K [] cs
 | n+1,cs,K=>match cs with
  | c::cs=>Zow n cs λa b=>K (c::a) b
  | []=>False
theorem Zox {E:Env}:∀ (n:Nat) (cs:List SV) (vs:List Value),ZW E cs vs->∀ {K:List SV->List SV->Prop},Zow n cs K->∃ a b va vb,vs=va++vb/\ZW E a va/\ZW E b vb/\K a b
 | 0,cs,vs,hd,K,hk=>⟨[],cs,[],vs,rfl,trivial,hd,hk⟩
 | n+1,[],vs,hd,K,hk=>by simp only[Zow] at hk
 | n+1,c::cs,vs,hd,K,hk=>by
  match vs,hd with
  | v::vs,hd =>
   simp only[ZW] at hd;simp only[Zow] at hk;obtain ⟨a,b,va,vb,e,h1,h2,h3⟩:=Zox n cs vs hd.2 hk;exact ⟨c::a,b,v::va,vb,by rw[e];rfl,⟨hd.1,h1⟩,h2,h3⟩
  | [],hd=>simp[ZW] at hd
def Qw:(e:Dp)->List SV->List Entry->(e.ty.den->List SV->List Entry->Prop)->Prop
 | .flat t,cs,H,K=>Zow t.size cs λc1 c2=>Qa c1 H λc1' H'=>Y4 t c1' λd rest=>match rest with
   | []=>K d c2 H'
   | _=>False
 | .ol et e,cs,H,K=>match cs with
   | s::r=>match s with
    | .nsl=>K [] r H
    | .own id=>ZdW H id λen=>match en with
     | .arr et' t d=>if h:Dp.flat t=e then (if et'=et then ZeR H id .gone λH'=>ZoK h d λd'=>K d' r H' else False) else False
     | .darr et' e' d _=>if h:e'=e then (if et'=et then ZeR H id .gone λH'=>ZoK h d λd'=>K d' r H' else False) else False
     | .hole et' e' d i cells _=>if h:e'=e then (if et'=et then ZeR H id .gone λH0=>ZoK h d λd'=>Qw e cells H0 λx rest H1=>match rest with
       | []=>K (d'.set i.toNat x) r H1
       | _=>False
      else False) else False
     | .spl et' e' d n _=>if h:e'=e then (if et'=et then (n=(d.length:Int)/\ZeR H id .gone λH'=>ZoK h d λd'=>K d' r H') else False) else False
     | _=>False
    | _=>False
   | []=>False
 | .mp k v,cs,H,K=>match cs with
   | s::r=>match s with
    | .mown id=>ZdW H id λen=>match en with
     | .mpe k' v' d=>if h:k'=k then (if h':v'=v then ZeR H id .gone λH'=>ZuG h h' d λd'=>K d' r H' else False) else False
     | _=>False
    | _=>False
   | []=>False
 | .pair a b,cs,H,K=>Qw a cs H λx r H1=>Qw b r H1 λy r' H2=>K (x,y) r' H2
def Closed (B:Base) (e:Dp) (E:Env) (H:List Entry) (vs:List Value) (gs:List Nat) (K:e.ty.den->List SV->List Entry->Prop):Prop :=
 ∃ E' H' x rest v1 v2 f,Frz E H E' H'/\Inv B E' H'/\vs=v1++v2/\ZeQ E'.S E'.w e x v1 f/\ZW E' rest v2/\K x rest H'/\Loose B E' H' (f++gs)/\Zhr E H H' f/\∀ (i:Nat) (c:List SV),H[i]?=some (.box c)->H'[i]?=some (.box c)
theorem Zrt {H:List Entry} {id:Nat} {e0:Entry} (h:H[id]?=some e0):(H.set id .gone)[id]?=some .gone:=List.getElem?_set_self (List.getElem?_eq_some_iff.1 h).1
theorem Zf5 {H:List Entry} {id:Nat} {e0 e1:Entry} (h:H[id]?=some e0) (hb:∀ c,e0≠.box c):∀ (i:Nat) (c:List SV),H[i]?=some (.box c)->(H.set id e1)[i]?=some (.box c):=by
 intro i c hi;by_cases hii:id=i
 ·subst hii;rw[h] at hi;simp at hi;exact absurd hi (hb c)
 ·rw[List.getElem?_set_ne hii];exact hi
theorem JV {B:Base}:∀ (e:Dp) (cs:List SV) {E:Env} {H:List Entry} (_:Inv B E H) {vs:List Value} (_:ZW E cs vs) {gs:List Nat} (_:Loose B E H gs) {K:e.ty.den->List SV->List Entry->Prop} (_:Qw e cs H K),Closed B e E H vs gs K
 | .flat t,cs,E,H,hI,vs,hd,gs,hL,K,hk=>by
  simp only[Qw] at hk;obtain ⟨c1,c2,va,vb,e1,h1,h2,hk⟩:=Zox _ _ _ hd hk;obtain ⟨E',H',c1',hf,hI',hd',hk,hb⟩:=Xj c1 hI h1 hk;obtain ⟨d,rest,u1,u2,e2,hr,hrest,hk⟩:=YQ t c1' _ va hd' hk;split at hk
  ·have hv2:u2=[]:=by cases u2 with
    | nil=>rfl
    | cons=>simp[ZW] at hrest
   subst hv2;rw[List.append_nil] at e2;subst e2;exact ⟨E',H',d,c2,va,vb,[],hf,hI',e1,⟨rfl,hr⟩,ZA hf.le _ _ h2,hk,hL.frz hf,Zhr.nil _ _ _,hb⟩
  ·exact hk.elim
 | .ol et e,cs,E,H,hI,vs,hd,gs,hL,K,hk=>by
  simp only[Qw] at hk;split at hk
  ·rename_i s r
   match vs,hd with
   | [],hd=>simp[ZW] at hd
   | v::vs,hd =>
    simp only[ZW] at hd;obtain ⟨hd1,hd2⟩:=hd;split at hk
    ·simp only[den] at hd1;subst hd1
     exact ⟨E,H,[],r,[_],vs,[],Frz.refl E H,hI,rfl,⟨_,[],[],rfl,World.ZgG _ _ _ _,⟨rfl,rfl⟩,rfl⟩,hd2,hk,hL,Zhr.nil _ _ _,λ_ _ h=>h⟩
    ·rename_i id
     obtain ⟨en,he,hq⟩:=Yu H hk;clear hk;simp only[den] at hd1;have took:∀ (f:List Nat),en.live=true->f.Nodup->(∀ g∈f,Zev en v g)->Frz E H E (H.set id .gone)/\Inv B E (H.set id .gone)/\Loose B E (H.set id .gone) (f++gs)/\Zhr E H (H.set id .gone) f:=by
      intro f hl hnd hf;exact ⟨Frz.one he hl hd1.1 rfl (Env.le.refl E) (λb hb=>.inl hb),hI.drop id,hL.take hI he hl hd1.1 hnd hf,λg hg=>⟨id,en,v,he,hl,hd1.1,hf g hg,Zrt he⟩⟩
     split at hq
     ·rename_i et' t d
      split at hq
      ·rename_i ht;subst ht
       split at hq
       ·rename_i het;subst het
        rw[YO,ZgA] at hq;obtain ⟨v',xs,e1,h2,h3⟩:=hI.ent id _ he;have:=hd1.1.symm.trans e1;simp at this;subst this;obtain ⟨t1,t2,t3,t4⟩:=took (Yl v).toList rfl (by cases Yl v<;>simp) (λg hg=>by
         show Yl v=some g;simpa using hg)
        exact ⟨E,_,d,r,[v],vs,(Yl v).toList,t1,t2,rfl,⟨v,xs,[],rfl,h2,Zkd _ _ h3,by simp⟩,hd2,hq,t3,t4,Zf5 he (λc h=>by cases h)⟩
       ·exact hq.elim
      ·exact hq.elim
     ·rename_i et' e' d fp
      split at hq
      ·rename_i ht;subst ht
       split at hq
       ·rename_i het;subst het
        rw[YO,ZgA] at hq;obtain ⟨v',xs,fps,e1,h2,h3,h4,h5⟩:=hI.ent id _ he;have:=hd1.1.symm.trans e1;simp at this;subst this;obtain ⟨t1,t2,t3,t4⟩:=took fp rfl h5 (λg hg=>hg);exact ⟨E,_,d,r,[v],vs,fp,t1,t2,rfl,⟨v,xs,fps,rfl,h2,h3,h4⟩,hd2,hq,t3,t4,Zf5 he (λc h=>by cases h)⟩
       ·exact hq.elim
      ·exact hq.elim
     ·rename_i et' e' d i cells fp
      split at hq
      ·rename_i ht;subst ht
       split at hq
       ·rename_i het;subst het
        rw[YO,ZgA] at hq;obtain ⟨v',xs,x1,vx,x2,f1,f2,e1,h2,hi0,hi1,ex,el,el2,hr1,hr2,hdc,ef,hnd⟩:=hI.ent id _ he;have:=hd1.1.symm.trans e1;simp at this;subst this;obtain ⟨t1,t2,t3,t4⟩:=took fp rfl hnd (λg hg=>hg);obtain ⟨E',H',x,rest,u1,u2,f,hf,hI',eu,hrx,hrest,hq,hL',hT,hb⟩:=JV e' cells t2 hdc t3 hq;split at hq
        ·have hv2:u2=[]:=by cases u2 with
          | nil=>rfl
          | cons=>simp[ZW] at hrest
         subst hv2;rw[List.append_nil] at eu;subst eu;have hperm:(f++(fp++gs)).Perm ((Yl v).toList++(f1++f++f2)++gs):=by
          rw[ef];refine List.Perm.trans ?_ (List.Perm.refl _);rw[<-List.append_assoc];refine List.Perm.append_right gs ?_;have:(f++((Yl v).toList++f1++f2)).Perm ((Yl v).toList++f1++(f++f2)):=by
           rw[<-List.append_assoc,<-List.append_assoc ((Yl v).toList++f1)];exact List.perm_append_comm.append_right f2
          refine this.trans ?_;simp[List.append_assoc]
         have hkeep:∀ (g:Nat),E'.w.heap[g]?=E.w.heap[g]?:=λg=>by rw[hf.w]
         refine ⟨E',H',d.set i.toNat x,r,[v],vs,(Yl v).toList++(f1++f++f2),t1.trans hf,hI',rfl,⟨v,x1++vx++x2,f1++f++f2,rfl,?_,?_,rfl⟩,ZA hf.le _ _ hd2,hq,hL'.perm hperm,?_,λj c hj=>hb j c (Zf5 he (λc h=>by cases h) j c hj)⟩
         ·rw[List.length_set,<-ex,hf.w];exact h2
         ·refine ZqD (by omega) (Y5 _ _ _ (λd vs f _=>Yg hf.le.S hf.le.w e' d vs f (λg _=>hkeep g)) hr1) hrx ?_
          exact Y5 _ _ _ (λd vs f _=>Yg hf.le.S hf.le.w e' d vs f (λg _=>hkeep g)) hr2
         ·have hT1:Zhr E H H' fp:=t4.later hf
          have hT2:Zhr E H H' f:=Zhr.after t1 hT;refine (hT1.append hT2).sub (λg hg=>?_);rw[ef];simp only[List.mem_append] at hg ⊢;rcases hg with hg | (hg | hg) | hg
          ·exact .inl (.inl (.inl hg))
          ·exact .inl (.inl (.inr hg))
          ·exact .inr hg
          ·exact .inl (.inr hg)
        ·exact hq.elim
       ·exact hq.elim
      ·exact hq.elim
     ·rename_i et' e' d n fp
      split at hq
      ·rename_i ht;subst ht
       split at hq
       ·rename_i het;subst het
        obtain ⟨hn,hq⟩:=hq;rw[YO,ZgA] at hq;obtain ⟨v',e1,⟨xs,x1,x2,f1,h2,h3,h4,ex,el,hr1,hr2,ef⟩,h5⟩:=hI.ent id _ he;have:=hd1.1.symm.trans e1;simp at this;subst this;have hnl:n.toNat=d.length:=by omega
        rw[hnl,List.take_length] at hr1;rw[hnl,List.drop_length] at hr2;have hr2:x2=[]:=hr2;subst hr2;rw[List.append_nil] at ex;subst ex;obtain ⟨t1,t2,t3,t4⟩:=took fp rfl h5 (λg hg=>hg);exact ⟨E,_,d,r,[v],vs,fp,t1,t2,rfl,⟨v,xs,f1,rfl,h2,hr1,ef⟩,hd2,hq,t3,t4,Zf5 he (λc h=>by cases h)⟩
       ·exact hq.elim
      ·exact hq.elim
     ·exact hq.elim
    ·exact hk.elim
  ·exact hk.elim
 | .mp kt vt,cs,E,H,hI,vs,hd,gs,hL,K,hk=>by
  simp only[Qw] at hk;split at hk
  ·rename_i s r
   match vs,hd with
   | [],hd=>simp[ZW] at hd
   | v::vs,hd =>
    simp only[ZW] at hd;obtain ⟨hd1,hd2⟩:=hd;split at hk
    ·rename_i id
     obtain ⟨en,he,hq⟩:=Yu H hk;clear hk;simp only[den] at hd1;split at hq
     ·rename_i k' v' d
      split at hq
      ·rename_i ht;subst ht
       split at hq
       ·rename_i het;subst het
        rw[YO] at hq;have hq:K d r (H.set id .gone):=hq;obtain ⟨b,es,clk,e1,h2,h3⟩:=hI.ent id _ he;have:=hd1.1.symm.trans e1;simp at this;subst this;exact ⟨E,_,d,r,[.map (some b)],vs,[b],Frz.one he rfl hd1.1 rfl (Env.le.refl E) (λb hb=>.inl hb),hI.drop id,rfl,⟨b,es,clk,rfl,rfl,h2,h3⟩,hd2,hq,
         hL.take hI he rfl hd1.1 (by simp) (λg hg=>by simp at hg;subst hg;rfl),λg hg=>⟨id,_,_,he,rfl,hd1.1,by simp at hg;subst hg;rfl,Zrt he⟩,Zf5 he (λc h=>by cases h)⟩
       ·exact hq.elim
      ·exact hq.elim
     ·exact hq.elim
    ·exact hk.elim
  ·exact hk.elim
 | .pair a b,cs,E,H,hI,vs,hd,gs,hL,K,hk=>by
  simp only[Qw] at hk;obtain ⟨E1,H1,x,r,v1,v2,f1,hf1,hI1,e1,hr1,hd1,hk,hL1,hT1,hb1⟩:=JV a cs hI hd hL hk;obtain ⟨E2,H2,y,r',v3,v4,f2,hf2,hI2,e2,hr2,hd2,hk,hL2,hT2,hb2⟩:=JV b r hI1 hd1 hL1 hk;refine ⟨E2,H2,(x,y),r',v1++v3,v4,f1++f2,hf1.trans hf2,hI2,by rw[e1,e2,List.append_assoc],⟨v1,v3,f1,f2,rfl,rfl,?_,hr2⟩,hd2,hk,?_,(hT1.later hf2).append (Zhr.after hf1 hT2),λi c h=>hb2 i c (hb1 i c h)⟩
  ·exact Yg hf2.le.S hf2.le.w a _ _ _ (λg _=>by rw[hf2.w]) hr1
  ·refine hL2.perm ?_
   rw[<-List.append_assoc];exact List.perm_append_comm.append_right gs
def closeAll (e:Dp) (cs:List SV) (H:List Entry) (K:e.ty.den->List Entry->Prop):Prop:=Qw e cs H λx rest H1=>match rest with
 | []=>K x H1
 | _=>False
theorem XQ {B:Base} {e:Dp} {cs:List SV} {E:Env} {H:List Entry} (hI:Inv B E H) {vs:List Value} (hd:ZW E cs vs) {gs:List Nat} (hL:Loose B E H gs) {K:e.ty.den->List Entry->Prop} (hk:closeAll e cs H K) :
  ∃ E' H' x f,Frz E H E' H'/\Inv B E' H'/\ZeQ E'.S E'.w e x vs f/\K x H'/\Loose B E' H' (f++gs)/\Zhr E H H' f/\∀ (i:Nat) (c:List SV),H[i]?=some (.box c)->H'[i]?=some (.box c):=by
 obtain ⟨E',H',x,rest,v1,v2,f,h1,h2,h3,h4,h5,hk,h7,h8,h9⟩:=JV e cs hI hd hL hk;split at hk
 ·have hv2:v2=[]:=by cases v2 with
   | nil=>rfl
   | cons=>simp[ZW] at h5
  subst hv2;rw[List.append_nil] at h3;subst h3;exact ⟨E',H',x,f,h1,h2,h4,hk,h7,h8,h9⟩
 ·exact hk.elim
section
variable {P:Program}
theorem ZtY {E:Env} {id:Nat} {et:TypeId} {e:Dp} {d:List e.ty.den} {i:Int} {cells:List SV} {fp:List Nat} (h:Zpt E id (.hole et e d i cells fp)) :
  ∃ b o n c vx,E.ids[id]?=some (.slice (some ⟨b,o,none⟩) n c)/\ZW E cells vx/\vx.length=e.ty.size/\∀ j u,vx[j]?=some u->E.w.cell? ((⟨b,o+i.toNat*e.ty.size,none⟩:Addr).add j)=some u:=by
 obtain ⟨v,xs,x1,vx,x2,f1,f2,e1,h2,hi0,hi1,ex,el,el2,hr1,hr2,hdc,ef,hnd⟩:=h;rcases h2.2 with ⟨rfl,hn⟩ | ⟨g,cap,cur,o,rfl,_⟩
 ·omega
 ·refine ⟨g,o,_,cap,vx,e1,hdc,el2,λj u hu=>?_⟩
  have hc:=h2.ZeV rfl;have hj:xs[i.toNat*e.ty.size+j]?=some u:=by
   rw[ex,List.append_assoc,List.getElem?_append_right (by omega),el,show i.toNat*e.ty.size+j-i.toNat*e.ty.size=j by omega,List.getElem?_append_left (List.getElem?_eq_some_iff.1 hu).1];exact hu
  have:=hc _ u hj;rw[add_eq] at this ⊢;grind
def reopen (et:TypeId) (e:Dp) (id:Nat) (i:Int) (H:List Entry) (K:List SV->List Entry->Prop):Prop :=
 closeAll (.ol et e) [.own id] H λd H0=>ZfR d i λx=>XO e x H0 λcells H1=>∀ fp:List Nat,ZeR H1 id (.hole et e d i cells fp) λH2=>K cells H2
def ZpX (id:Nat) (i:Int) (H:List Entry) (K:List SV->List Entry->Prop):Prop :=
 ZdW H id λen=>match en with
 | .darr et e _ _=>reopen et e id i H K
 | .hole et e _ j cells _=>(i=j/\K cells H)\/reopen et e id i H K
 | _=>False
def Ztt (B:Base) (E:Env) (H:List Entry) (id:Nat) (i:Int) (K:List SV->List Entry->Prop):Prop :=
 ∃ E' H' et e d cells fp,E'.w=E.w/\Inv B E' H'/\E.le E'/\H'[id]?=some (.hole et e d i cells fp)/\K cells H'
theorem Zoo {B:Base} {E:Env} {H:List Entry} (hI:Inv B E H) {et:TypeId} {e:Dp} {id:Nat} {v:Value} (hv:den E (.own id) v) {i:Int} {K:List SV->List Entry->Prop} (hk:reopen et e id i H K):Ztt B E H id i K:=by
 unfold reopen at hk;obtain ⟨E1,H1,d,f,hf,hI1,hr,hk,hL,hT,hb⟩:=XQ hI (show ZW E [.own id] [v] from ⟨hv,trivial⟩) (gs:=[]) ⟨List.nodup_nil,λg hg=>by simp at hg,λg hg=>by simp at hg⟩ hk;simp only[den] at hv;obtain ⟨v',xs,fps,ev,ho,hr,ef⟩:=hr;simp at ev;subst ev;obtain ⟨hi0,hi1,hk⟩:=hk;have hlt:i.toNat<d.length:=by omega
 have hx:d[i.toNat]?=some d[i.toNat]:=List.getElem?_eq_getElem hlt;have hk:=hk _ hx;obtain ⟨x1,vx,x2,f1,fx,f2,e1,e2,e3,h1,h2,h3⟩:=Zl0 (λd vs f=>JI e d vs f) _ _ _ hr _ _ hx;have hp:(f++[]).Perm (fx++((Yl v).toList++f1++f2)):=by
  grind
 have hL1:=hL.perm hp;obtain ⟨E2,H2,cells,hw2,hS2,hI2,hle2,hd2,hk,hL2,l,hl⟩:=Qv e _ hI1 h2 hL1 hk;have hk:=hk ((Yl v).toList++f1++f2);rw[YO] at hk;have hid1:E1.ids[id]?=some v:=by rw[hf.ids];exact hv.1
 have hid2:E2.ids[id]?=some v:=hle2.ids _ _ hid1;have hlt2:id<H2.length:=by
  have:=(List.getElem?_eq_some_iff.1 hid2).1;rw[<-hI2.len];exact this
 have hkeep:∀ g:Nat,E2.w.heap[g]?=E1.w.heap[g]?:=λg=>by rw[hw2]
 obtain ⟨hI3,_⟩:=Loose.put (gs:=[]) (by grind) hI2 hlt2 hid2 (.hole et e d i cells ((Yl v).toList++f1++f2)) (λ_ g hg=>hg)
  ⟨v,xs,x1,vx,x2,f1,f2,hid2,by rw[hw2];exact ho,hi0,hi1,e1,e3,JI e _ _ _ h2,
   Y5 _ _ _ (λd vs f _=>Yg hle2.S hle2.w e d vs f (λg _=>hkeep g)) h1,
   Y5 _ _ _ (λd vs f _=>Yg hle2.S hle2.w e d vs f (λg _=>hkeep g)) h3,hd2,rfl,hL2.nodup⟩
 exact ⟨E2,_,et,e,d,cells,_,hw2.trans hf.w,hI3,hf.le.trans hle2,List.getElem?_set_self hlt2,hk⟩
theorem Zoj {B:Base} {E:Env} {H:List Entry} (hI:Inv B E H) {id:Nat} {v:Value} (hv:den E (.own id) v) {i:Int} {K:List SV->List Entry->Prop} (hk:ZpX id i H K):Ztt B E H id i K:=by
 unfold ZpX at hk;obtain ⟨en,he,hk⟩:=Yu H hk;split at hk
 ·exact Zoo hI hv hk
 ·rename_i et e d j cells fp
  rcases hk with ⟨rfl,hk⟩ | hk
  ·exact ⟨E,H,et,e,d,cells,fp,rfl,hI,Env.le.refl E,he,hk⟩
  ·exact Zoo hI hv hk
 ·exact hk.elim
def Zry:Entry->Bool
 | .darr _ _ _ _=>true
 | .hole _ _ _ _ _ _=>true
 | _=>false
def Zxu:Entry->Nat
 | .darr _ e _ _=>e.ty.size
 | .hole _ e _ _ _ _=>e.ty.size
 | _=>0
theorem ZrL {E:Env} {id sz:Nat} {i:Int} {off:Nat} {v:Value} (h:den E (.oep id sz i off) v):∃ u,den E (.own id) u:=by
 simp only[den] at h ⊢;grind
def ZsP (ti:TI) (s:SV) (H:List Entry) (K:SV->List Entry->Prop):Prop :=
 match s with
 | .oep id sz i off=>ZdW H id λen=>if Zry en=true then (if Zxu en=sz then ZpX id i H λcells H'=>if cells.length=sz then Zgb cells off λcs=>Qb ti cs λr=>K r H' else False else False) else Zqs ti s H λr=>K r H
 | _=>Zqs ti s H λr=>K r H
theorem ZpM {B:Base} {E:Env} {H:List Entry} (hI:Inv B E H) {T:TypeId} {ti:TI} (h:ZaH P T ti) {s:SV} {v:Value} (hs:den E s v) {K:SV->List Entry->Prop} (hk:ZsP ti s H K) :
  ∃ u r E' H',E'.w=E.w/\Zsm P E.w (Instr.loadAt T v) u/\Inv B E' H'/\E.le E'/\den E' r u/\K r H':=by
 have old:Zqs ti s H (λr=>K r H)->∃ u r E' H',E'.w=E.w/\Zsm P E.w (Instr.loadAt T v) u/\Inv B E' H'/\E.le E'/\den E' r u/\K r H':=by
  intro hk;obtain ⟨u,r,h1,h2,h3⟩:=ZpN hI h hs hk;exact ⟨u,r,E,H,rfl,h1,hI,Env.le.refl E,h2,h3⟩
 unfold ZsP at hk;split at hk
 ·rename_i id sz i off
  obtain ⟨en,he,hk⟩:=Yu H hk;split at hk
  ·split at hk
   ·obtain ⟨w0,hw0⟩:=ZrL hs
    obtain ⟨E1,H1,et,e,d,cells,fp,hw1,hI1,hle1,he1,hk⟩:=Zoj hI hw0 hk;split at hk
    ·rename_i hcl
     rw[JW] at hk;obtain ⟨b,bo,n,c,vx,h1,h2,h3,h4⟩:=ZtY (hI1.ent id _ he1);simp only[den] at hs;obtain ⟨b',bo',n',c',g1,rfl⟩:=hs;have:=(hle1.ids _ _ g1).symm.trans h1;simp at this;obtain ⟨⟨rfl,rfl⟩,rfl,rfl⟩:=this;have hvl:vx.length=sz:=by rw[<-Yp _ _ h2];exact hcl
     have hes:e.ty.size=sz:=by rw[<-h3,hvl]
     obtain ⟨u,r,k1,k2,k3⟩:=Zfg h E1.w ⟨b',bo'+(i.toNat*sz+off),none⟩ hk (vx.drop off) (QZ _ _ h2 off) (λj u hu=>by
      have:=h4 (off+j) u (by simpa using hu);rw[add_eq] at this ⊢;grind)
     refine ⟨u,r,E1,H1,hw1,λw' hst=>?_,hI1,hle1,k2,k3⟩;rw[hw1] at k1;simp only[Instr.loadAt,Instr.sureAddr,pure_bind];exact k1 w' hst
    ·exact hk.elim
   ·exact hk.elim
  ·exact old hk
 ·exact old hk
def Zl9 (ti:TI) (id sz:Nat) (i:Int) (off:Nat) (sx:SV) (H:List Entry) (K:List Entry->Prop):Prop :=
 if (sx.whole&&ZmN sx.cells&&ZmM sx.cells ti.size)=true then ZpX id i H λcells H'=>if cells.length=sz/\off+ti.size<=sz then Zis cells off sx.cells λnew=>ZdW H' id λen=>match en with
  | .hole et e d j _ fp=>ZeR H' id (.hole et e d j new fp) K
  | _=>False
 else False else False
def Zp9 (ti:TI) (sa sx:SV) (H:List Entry) (K:List Entry->Prop):Prop :=
 match sa with
 | .oep id sz i off=>ZdW H id λen=>if Zry en=true then Zl9 ti id sz i off sx H K else Zqa ti sa sx H K
 | _=>Zqa ti sa sx H K
theorem Zoz {B:Base} {E:Env} {H:List Entry} (hI:Inv B E H) {T:TypeId} {ti:TI} (h:ZaH P T ti) {id sz:Nat} {i:Int} {off:Nat} {sx:SV} {va vx:Value} (ha:den E (.oep id sz i off) va) (hx:den E sx vx)
  {K:List Entry->Prop} (hk:Zl9 ti id sz i off sx H K):∃ E' H',(Instr.storeAt T va vx).run P E.w=.ok () E'.w/\Inv B E' H'/\E.le E'/\K H'/\E.w.grownBy E'.w (Yl va):=by
 unfold Zl9 at hk;split at hk
 ·rename_i hc
  simp only[Bool.and_eq_true,ZmM,beq_iff_eq] at hc;obtain ⟨⟨hw,h1⟩,hlen⟩:=hc;have hdx:=QX hx hw;have hl:=Yp _ _ hdx;have hone:=ZdR _ _ hdx h1;have hsz:vx.cells.size=ti.size:=by grind
  have hsz':vx.cells.toList.length=ti.size:=by rw[<-hl,hlen]
  obtain ⟨w0,hw0⟩:=ZrL ha;obtain ⟨E1,H1,et,e,d,cells,fp,hw1,hI1,hle1,he1,hk⟩:=Zoj hI hw0 hk;split at hk
  ·rename_i hcl
   obtain ⟨hcl,hfit⟩:=hcl;rw[ZeN] at hk;obtain ⟨en,hen,hk⟩:=Yu H1 hk;have:=he1.symm.trans hen;simp at this;subst this;simp only[YO] at hk;simp only[den] at ha;obtain ⟨b,bo,n,c,g1,rfl⟩:=ha;have g1':=hle1.ids _ _ g1;obtain ⟨v,xs,x1,vxs,x2,f1,f2,k1,ho,hi0,hi1,ex,el,el2,hr1,hr2,hdc,ef,hnd⟩:=hI1.ent id _ he1;have:=g1'.symm.trans k1;simp at this;subst this;have hvl:vxs.length=sz:=by rw[<-Yp _ _ hdc];exact hcl
   have hes:e.ty.size=sz:=by rw[<-el2,hvl]
   rcases ho.2 with ⟨hv,_⟩ | ⟨g,cap,cur,o,hv,hg0,hh,hcap,hml,hcs,htake⟩
   ·simp at hv
   ·simp only[Value.slice.injEq,Option.some.injEq,Addr.mk.injEq,and_true] at hv
    obtain ⟨⟨hbg,hbo⟩,hnl,hcc⟩:=hv;subst hbg;subst hbo;rw[hes] at ho hcs htake el;have hlt:i.toNat<d.length:=by omega
    have hcl':cur.toList.length=cur.size:=Array.length_toList;have hNle:bo+d.length*sz<=cur.toList.length:=by rw[hcl'];exact Nat.le_trans (Nat.add_le_add_left (Nat.mul_le_mul_right _ hcap) _) hcs
    have hit:i.toNat*sz+sz<=d.length*sz:=by rw[<-Nat.succ_mul];exact Nat.mul_le_mul_right _ hlt
    have hrun:=Zfq h E1.w b (bo+(i.toNat*sz+off)) vx cur et hh hsz (by rw[<-hcl'];omega) hone;have hg:=Zcb E1.w b (cur.toList.take (bo+(i.toNat*sz+off))++vx.cells.toList++cur.toList.drop (bo+(i.toNat*sz+off)+ti.size)).toArray;have hbfp:b∈fp:=by rw[ef];simp[Yl]
    have hle:=Zbi hg hI1.Slt (λg eq=>by simp at eq;subst eq;exact (hI1.free id _ _ _ he1 rfl g1' hbfp).1);have hkeep:∀ f':List Nat,(∀ g∈f',g∈f1\/g∈f2)->∀ g∈f',(E1.w.setRow b (cur.toList.take (bo+(i.toNat*sz+off))++vx.cells.toList++cur.toList.drop (bo+(i.toNat*sz+off)+ti.size)).toArray).heap[g]?=E1.w.heap[g]?:=by
     intro f' hsub g hgm;have hgfp:g∈fp:=by grind
     refine hg.block g (hI1.free id _ _ _ he1 rfl g1' hgfp).2.2 (λeq=>?_);simp at eq;subst eq;rw[ef] at hnd;simp only[Yl,Option.toList,List.cons_append,List.nil_append,List.nodup_cons,List.mem_append] at hnd;grind
    have hsp:=Zfk (t:=sz) cur.toList vx.cells.toList bo (d.length*sz) i.toNat off hNle hit (by rw[hsz'];omega);rw[hsz',htake] at hsp;have a1:xs.take (i.toNat*sz)=x1:=by grind
    have a2:(xs.drop (i.toNat*sz)).take sz=vxs:=by grind
    have a3:xs.drop (i.toNat*sz+sz)=x2:=by rw[ex,<-el,<-hvl,show x1.length+vxs.length=(x1++vxs).length by simp,List.drop_left]
    rw[a1,a2,a3] at hsp;have hnew:=Zdn (ZA hle _ _ hdc) (ZA hle _ _ (ZA hle1 _ _ hdx)) off;rw[hsz'] at hnew;refine ⟨⟨E1.S,E1.w.setRow b _,E1.ids⟩,_,?_,hI1.Zqe he1 rfl g1' (row:=some b) (λg eq=>by simp at eq;subst eq;exact hbfp) hg (.hole et e d i (cells.take off++(sx.cells++cells.drop (off+sx.cells.length))) fp) (λ_ g hg=>hg) ?_,hle1.trans hle,hk,by rw[<-hw1];exact hg⟩
    ·grind
    ·refine ⟨_,x1++(vxs.take off++vx.cells.toList++vxs.drop (off+ti.size))++x2,x1,_,x2,f1,f2,g1',⟨?_,.inr ⟨b,cap,_,bo,?_,hg0,setRow_heap E1.w b cur _ et (0,0) hh,by simpa using hcap,hml,?_,?_⟩⟩,hi0,hi1,rfl,by rw[el,hes],?_,?_,?_,hnew,ef,hnd⟩
     ·have hxl:=ho.1
      rw[ex] at hxl;rw[hes];simp only[List.length_append,List.length_take,List.length_drop,hsz'] at hxl ⊢;omega
     ·rw[hnl,hcc]
     ·rw[List.size_toArray,hes]
      simp only[List.length_append,List.length_take,List.length_drop,hsz'];omega
     ·grind
     ·rw[hes]
      simp only[List.length_append,List.length_take,List.length_drop,hsz'];omega
     ·exact Y5 _ _ _ (λd vs f hs=>Yg hle.S hle.w e d vs f (hkeep f (λg hg=>.inl (hs g hg)))) hr1
     ·exact Y5 _ _ _ (λd vs f hs=>Yg hle.S hle.w e d vs f (hkeep f (λg hg=>.inr (hs g hg)))) hr2
  ·exact hk.elim
 ·exact hk.elim
theorem Zoy {B:Base} {E:Env} {H:List Entry} (hI:Inv B E H) {T:TypeId} {ti:TI} (h:ZaH P T ti) {sa sx:SV} {va vx:Value} (ha:den E sa va) (hx:den E sx vx)
  {K:List Entry->Prop} (hk:Zp9 ti sa sx H K):∃ E' H',(Instr.storeAt T va vx).run P E.w=.ok () E'.w/\Inv B E' H'/\E.le E'/\K H'/\E.w.grownBy E'.w (Yl va):=by
 unfold Zp9 at hk;split at hk
 ·obtain ⟨en,he,hk⟩:=Yu H hk
  split at hk
  ·exact Zoz hI h ha hx hk
  ·exact ZoA hI h ha hx hk
 ·exact ZoA hI h ha hx hk
end
section
variable {P:Program}
theorem Loose.write {B:Base} {E:Env} {H:List Entry} {gs:List Nat} (hL:Loose B E H gs) (hI:Inv B E H) {w':World} {row:Option Nat} (hrow:∀ g,row=some g->g∈gs) (hg:E.w.grownBy w' row) :
  Inv B ⟨E.S,w',E.ids⟩ H/\E.le ⟨E.S,w',E.ids⟩/\Loose B ⟨E.S,w',E.ids⟩ H gs/\(E.w.heap.size<w'.heap.size->Loose B ⟨E.S,w',E.ids⟩ H (E.w.heap.size::gs)):=by
 have hle:=Zbi hg hI.Slt (λg e=>(hL.free g (hrow g e)).1);have hI':Inv B ⟨E.S,w',E.ids⟩ H :=
  {keeps:=hI.keeps.grown hg (λg e=>(hL.free g (hrow g e)).2.1)
   Slt:=λb hb=>Nat.lt_of_lt_of_le (hI.Slt b hb) hg.size
   Sold:=hI.Sold,glob:=hI.glob.le hle,len:=hI.len,pin:=hI.pin
   ent:=λi e hi=>Zbg hle i e (λhl v g hv hb=>hg.block g (hI.free i e v g hi hl hv hb).2.2 (λeq=>hL.apart g (hrow g eq.symm) i e v hi hl hv hb)) (hI.ent i e hi)
   free:=λi e v g hi hl hv hb=>by
    obtain ⟨a,b,c⟩:=hI.free i e v g hi hl hv hb;exact ⟨a,b,Nat.lt_of_lt_of_le c hg.size⟩
   sep:=hI.sep}
 have hL':Loose B ⟨E.S,w',E.ids⟩ H gs:=⟨hL.nodup,λg hgm=>by
  obtain ⟨a,b,c⟩:=hL.free g hgm;exact ⟨a,b,Nat.lt_of_lt_of_le c hg.size⟩,hL.apart⟩
 refine ⟨hI',hle,hL',λhlt=>⟨List.nodup_cons.2 ⟨λhm=>Nat.lt_irrefl _ (hL.free _ hm).2.2,hL.nodup⟩,λg hgm=>?_,λg hgm j e v hj hl hv hb=>?_⟩⟩
 ·rcases List.mem_cons.1 hgm with rfl | hgm
  ·exact ⟨λhs=>Nat.lt_irrefl _ (hI.Slt _ hs),.inl hI.keeps.size,hlt⟩
  ·exact hL'.free g hgm
 ·rcases List.mem_cons.1 hgm with rfl | hgm
  ·exact Nat.lt_irrefl _ (hI.free j e v _ hj hl hv hb).2.2
  ·exact hL'.apart g hgm j e v hj hl hv hb
def Zik (et:TypeId) (e:Dp) (d:List e.ty.den) (H:List Entry) (K:SV->List Entry->Prop):Prop :=
 ZoX H 0 λn=>∀ fp:List Nat,ZnV H [.darr et e d fp] λH'=>K (.own n) H'
theorem ZjQ {B:Base} {E:Env} {H:List Entry} (hI:Inv B E H) {et:TypeId} {e:Dp} {d:List e.ty.den} {v:Value} {f gs:List Nat} (hr:ZeQ E.S E.w (.ol et e) d [v] f) (hL:Loose B E H (f++gs)) {K:SV->List Entry->Prop} (hk:Zik et e d H K) :
  ∃ E' H' s,E'.w=E.w/\Inv B E' H'/\E.le E'/\den E' s v/\K s H':=by
 unfold Zik at hk;rw[Zaj,Nat.zero_add] at hk;have hk:=hk f;rw[Jc] at hk;obtain ⟨v',xs,fps,ev,ho,hr,ef⟩:=hr;simp at ev;subst ev;have hid:(E.ids++[v])[H.length]?=some v:=by rw[<-hI.len];simp
 obtain ⟨hI',hL'⟩:=hL.push hI v (.darr et e d f) (λ_ g hg=>hg) ⟨v,xs,fps,hid,ho,hr,ef,(List.nodup_append.1 hL.nodup).1⟩;exact ⟨⟨E.S,E.w,E.ids++[v]⟩,_,_,rfl,hI',Zhv E v,ZlU hid ho,hk⟩
def Zty:List Entry->Nat->Option (TypeId×Dp)
 | [],_=>none
 | e::_,0=>match e with
  | .darr et e _ _=>some (et,e)
  | .hole et e _ _ _ _=>some (et,e)
  | _=>none
 | _::r,n+1=>Zty r n
def Zrd (s:SV) (H:List Entry):Option (TypeId×Dp) :=
 match s with
 | .own id=>Zty H id
 | _=>none
def ZvU (et:TypeId) (e:Dp) (ti:TI) (s x:SV) (H:List Entry) (K:SV->List Entry->Prop):Prop :=
 if et=ti.elem/\e.ty.size=ti.esize/\0<ti.esize/\0<ti.ebytes then Zme ti.ezero λz=>if z.length=ti.esize then
  closeAll (.ol et e) [s] H λd H1=>closeAll (.ol et e) [x] H1 λd' H2=>(d.length+d'.length)*ti.ebytes<=140737488355328/\Zik et e (d++d') H2 K
 else False else False
def ZoI (ti:TI) (s x:SV) (H:List Entry) (K:SV->List Entry->Prop):Prop :=
 match ti.kind with
 | .sl=>match Zrd s H with
  | some (et,e)=>ZvU et e ti s x H K
  | none=>match Zrd x H with
   | some (et,e)=>ZvU et e ti s x H K
   | none=>ZoJ ti s x H K
 | _=>False
theorem ZlZ {S:Nat->Prop} {w:World}:∀ (e:Dp) (d:e.ty.den) (vs:List Value) (f:List Nat),ZeQ S w e d vs f->∀ u∈vs,u.oneCell'=true
 | .flat t,d,vs,f,h,u,hu=>ZnI t d vs h.2 u hu
 | .ol et e,d,vs,f,⟨v,xs,fps,ev,ho,_⟩,u,hu=>by
  subst ev;simp at hu;subst hu;rcases ho.2 with ⟨rfl,_⟩ | ⟨g,cap,cur,o,rfl,_⟩<;>rfl
 | .mp _ _,d,vs,f,⟨b,es,clk,ev,_⟩,u,hu=>by
  subst ev;simp at hu;subst hu;rfl
 | .pair a b,d,vs,f,⟨v1,v2,f1,f2,ev,_,h1,h2⟩,u,hu=>by
  subst ev;rcases List.mem_append.1 hu with hu | hu
  ·exact ZlZ a _ _ _ h1 u hu
  ·exact ZlZ b _ _ _ h2 u hu
theorem Zm0 {S:Nat->Prop} {w:World} {e:Dp}:∀ (l:List e.ty.den) (xs:List Value) (f:List Nat),Jf (ZeQ S w e) l xs f->∀ u∈xs,u.oneCell'=true
 | [],xs,f,h,u,hu=>by rw[h.1] at hu;simp at hu
 | d::l,xs,f,⟨v1,v2,f1,f2,ev,_,h1,h2⟩,u,hu=>by
  subst ev;rcases List.mem_append.1 hu with hu | hu
  ·exact ZlZ e _ _ _ h1 u hu
  ·exact Zm0 l v2 f2 h2 u hu
theorem ZqX {B:Base} {E:Env} {H:List Entry} (hI:Inv B E H) {T ty:TypeId} {ti:TI} (h:ZaH P T ti) (hdd:ti.kind=.sl) {et:TypeId} {e:Dp} {s x:SV} {vs vx:Value} (hs:den E s vs) (hx:den E x vx)
  {K:SV->List Entry->Prop} (hk:ZvU et e ti s x H K):∃ u E' H' r,(Builtin.append_ #[T,T] ty #[vs,vx]).run P E.w=.ok u E'.w/\Inv B E' H'/\E.le E'/\den E' r u/\K r H'/\E.w.grownBy E'.w vs.ownBlock:=by
 unfold ZvU at hk;split at hk
 ·rename_i hc0
  obtain ⟨het,hts,hpos,hbpos⟩:=hc0;obtain ⟨z,hz,hk⟩:=Zdc E _ _ hk;split at hk
  ·rename_i hz1
   obtain ⟨hu,_,ie,hie,hsz,hby,hzero⟩:=h.slice hdd;have hzs:ti.ezero.cells.size=ti.esize:=by rw[<-Array.length_toList,<-Yp _ _ hz,hz1]
   obtain ⟨E1,H1,d,f1,hf1,hI1,hr1,hk,hL1,_,_⟩:=XQ hI (show ZW E [s] [vs] from ⟨hs,trivial⟩) (gs:=[]) ⟨List.nodup_nil,λg hg=>by simp at hg,λg hg=>by simp at hg⟩ hk;obtain ⟨E2,H2,d',f2,hf2,hI2,hr2,hk,hL2,_,_⟩:=XQ hI1 (show ZW E1 [x] [vx] from ⟨ZdV hf1.le _ _ hx,trivial⟩) hL1 hk;obtain ⟨hbytes,hk⟩:=hk;rw[List.append_nil] at hL2;have hww:E2.w=E.w:=by rw[hf2.w,hf1.w]
   have hr1':=Yg hf2.le.S hf2.le.w (.ol et e) d [vs] f1 (λg _=>by rw[hf2.w]) hr1;obtain ⟨v1,xs1,fps1,ev1,ho1,hre1,ef1⟩:=hr1';simp at ev1;subst ev1;obtain ⟨v2,xs2,fps2,ev2,ho2,hre2,ef2⟩:=hr2;simp at ev2;subst ev2;rw[<-hww];have hLp:Loose B E2 H2 (f1++f2):=hL2.perm List.perm_append_comm;rcases ho2.2 with ⟨hvx,hn2⟩ | ⟨g2,cap2,cur2,o2,hvx,hg20,hh2,hcap2,hml2,hcs2,htake2⟩
   ·have hd':d'=[]:=List.eq_nil_of_length_eq_zero hn2
    subst hd';rw[List.append_nil] at hk;subst hvx;have hr:=Zb0 (P:=P) (w:=E2.w) 0 T ty et ie e.ty.size (by rw[het];exact hu) (by rw[het];exact hie) vs d.length xs1 ho1;obtain ⟨E3,H3,r,hw3,hI3,hle3,hd3,hk⟩:=ZjQ hI2 (⟨vs,xs1,fps1,rfl,ho1,hre1,ef1⟩:ZeQ E2.S E2.w (.ol et e) d [vs] f1) hLp hk;refine ⟨vs,E3,H3,r,?_,hI3,(hf1.le.trans hf2.le).trans hle3,hd3,hk,by rw[hw3];exact ⟨rfl,rfl,rfl,Nat.le_refl _,λ_ _ _=>rfl⟩⟩;rw[hw3];exact hr
   ·subst hvx
    have hnews:=ho2.ZeV rfl;have h63:d.length+d'.length<=maxLen:=by
     have:=Nat.le_mul_of_pos_right (d.length+d'.length) hbpos;unfold maxLen;omega
    have hones:=Zm0 _ _ _ hre2;obtain ⟨v',w',hr,hown,hgr,_⟩:=Zjd (P:=P) E2.w 0 T ty et ie ti.ezero e.ty.size ti.ebytes (by rw[het];exact hu) (by rw[het];exact hie) hzero (by rw[hsz,hts]) hby (by rw[hzs,hts]) (by omega) vs d.length xs1 ho1
     ⟨g2,o2,none⟩ d'.length cap2 xs2 ho2.1 hnews hones h63 hbytes (Nat.zero_le _)
    have hblk:=ZhE (P:=P) E2.w 0 T ty et ie ti.ezero e.ty.size ti.ebytes (by rw[het];exact hu) (by rw[het];exact hie) hzero (by rw[hsz,hts]) hby (by rw[hzs,hts]) (by omega) vs d.length xs1 ho1
     ⟨g2,o2,none⟩ d'.length cap2 xs2 ho2.1 hnews hones h63 hbytes hr
    have hob:=JG ho1;obtain ⟨hI3,hle3,hL3,hL3'⟩:=hLp.write hI2 (row:=vs.ownBlock) (λg hg=>by
     grind) hgr
    have hnd:=hLp.nodup;have keep:∀ g,g∈fps1++fps2->w'.heap[g]?=E2.w.heap[g]?:=by
     intro g hg;have hgm:g∈f1++f2:=by
      grind
     refine hgr.block g (hLp.free g hgm).2.2 (λeq=>?_);grind
    have hre:Jf (ZeQ E2.S w' e) (d++d') (xs1++xs2) (fps1++fps2) :=
     Zem _ _ _ _ _ _ (Y5 _ _ _ (λd vs f hs=>Yg (λ_ h=>h) hle3.w e d vs f (λg hg=>keep g (by simp[hs g hg]))) hre1)
      (Y5 _ _ _ (λd vs f hs=>Yg (λ_ h=>h) hle3.w e d vs f (λg hg=>keep g (by simp[hs g hg]))) hre2)
    have hrD:ZeQ E2.S w' (.ol et e) (d++d') [v'] ((Yl v').toList++(fps1++fps2)):=⟨v',_,_,rfl,by grind,hre,rfl⟩;have hlt:∀ g,Yl v'=some g->g<w'.heap.size:=by
     intro g hg;rw[JG hown] at hg;exact (hown.lt g hg).2
    have sub:∀ {l:List Nat},List.Sublist ((Yl v').toList++(fps1++fps2)) l->Loose B ⟨E2.S,w',E2.ids⟩ H2 l->Loose B ⟨E2.S,w',E2.ids⟩ H2 ((Yl v').toList++(fps1++fps2)++[]):=by
     intro l hsub hl;rw[List.append_nil];exact ⟨hl.nodup.sublist hsub,λg hg=>hl.free g (hsub.subset hg),λg hg=>hl.apart g (hsub.subset hg)⟩
    have hbase:List.Sublist (fps1++fps2) (f1++f2):=by
     grind
    have hLn:Loose B ⟨E2.S,w',E2.ids⟩ H2 ((Yl v').toList++(fps1++fps2)++[]):=by
     rcases hblk with hb | hb | hb
     ·grind
     ·grind
     ·exact sub (by grind) (hL3' (hlt _ hb))
    obtain ⟨E3,H3,r,hw3,hI4,hle4,hd3,hk⟩:=ZjQ hI3 hrD hLn hk;refine ⟨v',E3,H3,r,?_,hI4,((hf1.le.trans hf2.le).trans hle3).trans hle4,hd3,hk,by rw[hw3];exact hgr⟩;rw[hw3];exact hr
  ·exact hk.elim
 ·exact hk.elim
theorem Zqf {B:Base} {E:Env} {H:List Entry} (hI:Inv B E H) {T ty:TypeId} {ti:TI} (h:ZaH P T ti) {s x:SV} {vs vx:Value} (hs:den E s vs) (hx:den E x vx)
  {K:SV->List Entry->Prop} (hk:ZoI ti s x H K):∃ u E' H' r,(Builtin.append_ #[T,T] ty #[vs,vx]).run P E.w=.ok u E'.w/\Inv B E' H'/\E.le E'/\den E' r u/\K r H'/\E.w.grownBy E'.w vs.ownBlock:=by
 unfold ZoI at hk;split at hk
 ·rename_i hdd
  split at hk
  ·exact ZqX hI h hdd hs hx hk
  ·split at hk
   ·exact ZqX hI h hdd hs hx hk
   ·exact Zqg hI h hs hx hk
 ·exact hk.elim
end
section
variable {P:Program}
def Zsj:(e:Dp)->List SV->(e.ty.den->List SV->Prop)->Prop
 | .flat t,cs,K=>Y4 t cs K
 | .ol _ _,cs,K=>match cs with
  | .nsl::r=>K [] r
  | _=>False
 | .mp _ _,_,_=>False
 | .pair a b,cs,K=>Zsj a cs λx r=>Zsj b r λy r'=>K (x,y) r'
theorem ZnT {E:Env}:∀ (e:Dp) (cs:List SV) {K:e.ty.den->List SV->Prop} (vs:List Value),ZW E cs vs->Zsj e cs K->
  ∃ d r v1 v2,vs=v1++v2/\ZeQ E.S E.w e d v1 []/\ZW E r v2/\K d r
 | .flat t,cs,K,vs,hd,hk=>by
  obtain ⟨d,r,v1,v2,a,b,c,k⟩:=YQ t cs K vs hd hk;exact ⟨d,r,v1,v2,a,⟨rfl,b⟩,c,k⟩
 | .ol et e,cs,K,vs,hd,hk=>by
  simp only[Zsj] at hk;split at hk
  ·rename_i r
   match vs,hd with
   | [],hd=>simp[ZW] at hd
   | v::vs,hd =>
    simp only[ZW,den] at hd;obtain ⟨rfl,hd⟩:=hd;exact ⟨[],r,[_],vs,rfl,⟨_,[],[],rfl,World.ZgG _ _ _ _,⟨rfl,rfl⟩,rfl⟩,hd,hk⟩
  ·exact hk.elim
 | .mp _ _,cs,K,vs,hd,hk=>hk.elim
 | .pair a b,cs,K,vs,hd,hk=>by
  obtain ⟨x,r,v1,v2,e1,h1,h2,hk⟩:=ZnT a cs vs hd hk;obtain ⟨y,r',v3,v4,e2,h3,h4,hk⟩:=ZnT b r v2 h2 hk;exact ⟨(x,y),r',v1++v3,v4,by grind,⟨v1,v3,[],[],rfl,rfl,h1,h3⟩,h4,hk⟩
theorem Zgo {α:Type} {R:α->List Value->List Nat->Prop} {x:α} {vs:List Value} (h:R x vs []):∀ n,Jf R (List.replicate n x) (List.replicate n vs).flatten []
 | 0=>by simp[Jf]
 | n+1=>by
  simp only[List.replicate_succ,List.flatten_cons];exact ⟨vs,_,[],[],rfl,rfl,h,Zgo h n⟩
theorem ZjU {α:Type} {R:α->List Value->List Nat->Prop} {n:Nat} (hn:∀ d vs f,R d vs f->vs.length=n):∀ l xs fp,Jf R l xs fp->∀ i,∃ f1 f2,fp=f1++f2/\Jf R (l.take i) (xs.take (i*n)) f1
 | [],xs,fp,h,i=>⟨[],[],by rw[h.2];rfl,by rw[h.1];simp[Jf]⟩
 | d::l,xs,fp,h,0=>⟨[],fp,rfl,by simp[Jf]⟩
 | d::l,_,_,⟨v1,v2,f1,f2,e,ef,r,rs⟩,i+1=>by
  obtain ⟨g1,g2,h1,h2⟩:=ZjU hn l v2 f2 rs i;have hl:=hn _ _ _ r;subst e;refine ⟨f1++g1,g2,by grind,?_⟩;rw[List.take_succ_cons,show (i+1)*n=v1.length+i*n by grind,List.take_append];exact ⟨v1,_,f1,g1,by grind,rfl,r,h2⟩
theorem ZmZ {α:Type} {R:α->List Value->List Nat->Prop} {n:Nat} (hn:∀ d vs f,R d vs f->vs.length=n):∀ l xs fp,Jf R l xs fp->∀ i,∃ f1 f2,fp=f1++f2/\Jf R (l.drop i) (xs.drop (i*n)) f2
 | [],xs,fp,h,i=>⟨[],[],by rw[h.2];rfl,by rw[h.1];simp[Jf]⟩
 | d::l,xs,fp,h,0=>⟨[],fp,rfl,by simpa using h⟩
 | d::l,_,_,⟨v1,v2,f1,f2,e,ef,r,rs⟩,i+1=>by
  obtain ⟨g1,g2,h1,h2⟩:=ZmZ hn l v2 f2 rs i;have hl:=hn _ _ _ r;subst e;refine ⟨f1++g1,g2,by grind,?_⟩;rw[List.drop_succ_cons,show (i+1)*n=v1.length+i*n by grind,<-List.drop_drop,List.drop_left];exact h2
theorem ZkX {B:Base} {E:Env} {H:List Entry} (hI:Inv B E H) {et:TypeId} {e:Dp} {d:List e.ty.den} {K:SV->List Entry->Prop} (hk:Zik et e d H K) (cs:Array Value) (cap:Nat) {f gs:List Nat} (hL:Loose B E H (f++gs))
  (hc:d.length<=cap) (hm:cap<=maxLen) (hs:cs.size=cap*e.ty.size) (hr:Jf (ZeQ E.S E.w e) d (cs.toList.take (d.length*e.ty.size)) f) :
  ∃ E' H' s,E'.w=E.w.alloc (.cells cs et)/\Inv B E' H'/\E.le E'/\den E' s (.slice (some ⟨E.w.heap.size,0,none⟩) d.length cap)/\K s H':=by
 have hg:E.w.grownBy (E.w.alloc (.cells cs et)) none:=World.grownBy_alloc E.w _ none;obtain ⟨hI1,hle1,_,hL1⟩:=hL.write hI (row:=none) (λg h=>by cases h) hg;have hL1:=hL1 (by simp);have keep:∀ g∈f,(E.w.alloc (.cells cs et)).heap[g]?=E.w.heap[g]?:=λg hgm=>hg.block g (hL.free g (by simp[hgm])).2.2 (by simp);have hrD:ZeQ E.S (E.w.alloc (.cells cs et)) (.ol et e) d [.slice (some ⟨E.w.heap.size,0,none⟩) d.length cap] (E.w.heap.size::f):=by
  refine ⟨_,cs.toList.take (d.length*e.ty.size),f,rfl,⟨?_,.inr ⟨_,cap,cs,0,rfl,Nat.zero_le _,Go.heap_alloc_new _ _,hc,hm,by grind,by rw[List.drop_zero]⟩⟩,?_,rfl⟩
  ·simp_all
  ·exact Y5 _ _ _ (λd vs f' hs=>Yg hle1.S hle1.w e d vs f' (λg hgm=>keep g (hs g hgm))) hr
 obtain ⟨E2,H2,s,hw2,hI2,hle2,hd2,hk⟩:=ZjQ hI1 hrD (gs:=gs) hL1 hk;exact ⟨E2,H2,s,hw2,hI2,hle1.trans hle2,hd2,hk⟩
def Zt5 (ti:TI) (sl sc:SV) (H:List Entry) (K:SV->List Entry->Prop):Prop :=
 match ti.edp with
 | none=>Zt6 ti sl sc H K
 | some e=>match ti.kind,sl,sc with
  | .sl,.int _ l,.int _ c=>Zme ti.ezero λz=>if z.length=ti.esize/\e.ty.size=ti.esize then
    0<=l/\l<=c/\c<=4611686018427387904/\(ti.ebytes:Int)*c<=281474976710656/\Zsj e z λx _=>Zik ti.elem e (List.replicate l.toNat x) H K
   else False
  | _,_,_=>False
theorem Loose.none (B:Base) (E:Env) (H:List Entry):Loose B E H []:=⟨List.nodup_nil,λg hg=>by simp at hg,λg hg=>by simp at hg⟩
theorem ZsT {B:Base} {E:Env} {H:List Entry} (hI:Inv B E H) {T:TypeId} {ti:TI} (h:ZaH P T ti) {sl sc:SV} {vl vc:Value} (hl:den E sl vl) (hc:den E sc vc)
  {K:SV->List Entry->Prop} (hk:Zt5 ti sl sc H K) :
  ∃ u E' H' s,(Instr.makeSlice T vl vc).run P E.w=.ok u E'.w/\Inv B E' H'/\E.le E'/\den E' s u/\K s H'/\Grow E.w E'.w:=by
 unfold Zt5 at hk;split at hk
 ·exact ZsU hI h hl hc hk
 ·rename_i e _
  split at hk
  ·rename_i kl l kc c hdd
   obtain ⟨z,hz,hk⟩:=Zdc E _ _ hk;split at hk
   ·rename_i hcond
    obtain ⟨hz1,hz2⟩:=hcond;obtain ⟨h0,hlc,hc63,hby,hk⟩:=hk;obtain ⟨hu,_,ie,hie,hs,hb,hzero⟩:=h.slice hdd;simp only[den] at hl hc;subst hl;subst hc;have hzl:=Yp _ _ hz;have hzs:ti.ezero.cells.size=ti.esize:=by grind
    obtain ⟨x,r,v1,v2,e1,hr,_,hk⟩:=ZnT _ _ _ hz hk;have hv1:v1=ti.ezero.cells.toList:=by
     have h2:=JI _ _ _ _ hr
     simp_all
    have hmade:(madeCells ti.ezero.cells (c.toNat*ti.esize)).toList=(List.replicate c.toNat ti.ezero.cells.toList).flatten:=by
     rw[<-hzs];exact Zej _ _
    obtain ⟨E2,H2,s,hw2,hI2,hle2,hd2,hk⟩:=ZkX hI hk (madeCells ti.ezero.cells (c.toNat*ti.esize)) c.toNat (f:=[]) (gs:=[]) (Loose.none B E H) (by rw[List.length_replicate];omega) (by unfold maxLen;omega) (by rw[size_madeCells,hz2]) (by
     obtain ⟨f1,f2,hf,this⟩:=ZjU (λd vs f=>JI e d vs f) _ _ _ (Zgo hr c.toNat) l.toNat;have hf1:f1=[]:=by cases f1 with
      | nil=>rfl
      | cons=>simp at hf
     subst hf1;rw[List.take_replicate] at this;rw[List.length_replicate,hmade,<-hv1]
     rwa [show min l.toNat c.toNat=l.toNat by omega] at this)
    refine ⟨_,E2,H2,s,?_,hI2,hle2,hd2,hk,by rw[hw2];exact JX _ _⟩;rw[hw2,List.length_replicate,<-hs];exact run_make E.w T ti.elem ie ti.ezero hu hie hzero kl kc l c h0 hlc (by rw[hb];exact hby) (by omega)
   ·exact hk.elim
  ·exact hk.elim
def Zez (e:Dp):Nat->List SV->List Entry->(List e.ty.den->List Entry->Prop)->Prop
 | 0,cs,H,K=>match cs with
  | []=>K [] H
  | _=>False
 | n+1,cs,H,K=>Qw e cs H λx r H1=>Zez e n r H1 λl H2=>K (x::l) H2
theorem ZiB {B:Base} {e:Dp}:∀ (n:Nat) (cs:List SV) {E:Env} {H:List Entry} (_:Inv B E H) {vs:List Value} (_:ZW E cs vs) {gs:List Nat} (_:Loose B E H gs) {K:List e.ty.den->List Entry->Prop} (_:Zez e n cs H K),
  ∃ E' H' l f,Frz E H E' H'/\Inv B E' H'/\l.length=n/\Jf (ZeQ E'.S E'.w e) l vs f/\K l H'/\Loose B E' H' (f++gs)
 | 0,cs,E,H,hI,vs,hd,gs,hL,K,hk=>by
  simp only[Zez] at hk;split at hk
  ·match vs,hd with
   | [],_=>exact ⟨E,H,[],[],Frz.refl E H,hI,rfl,⟨rfl,rfl⟩,hk,hL⟩
   | _::_,hd=>simp[ZW] at hd
  ·exact hk.elim
 | n+1,cs,E,H,hI,vs,hd,gs,hL,K,hk=>by
  simp only[Zez] at hk;obtain ⟨E1,H1,x,r,v1,v2,f1,hf1,hI1,e1,hr1,hd1,hk,hL1,_,_⟩:=JV e cs hI hd hL hk;obtain ⟨E2,H2,l,f2,hf2,hI2,hl2,hr2,hk,hL2⟩:=ZiB n r hI1 hd1 hL1 hk;refine ⟨E2,H2,x::l,f1++f2,hf1.trans hf2,hI2,by simp[hl2],⟨v1,v2,f1,f2,e1,rfl,?_,hr2⟩,hk,?_⟩
  ·exact Yg hf2.le.S hf2.le.w e _ _ _ (λg _=>by rw[hf2.w]) hr1
  ·refine hL2.perm ?_
   grind
def ZhK (ti:TI) (len:Nat) (ps:List (Nat×SV)) (H:List Entry) (K:SV->List Entry->Prop):Prop :=
 match ti.edp with
 | none=>ZhL ti len ps H K
 | some e=>match ti.kind with
  | .sl=>if len=0/\ps.isEmpty=true then Zik ti.elem e [] H K else Zme ti.ezero λz=>if z.length=ti.esize/\e.ty.size=ti.esize/\0<len*ti.esize/\len*ti.esize<=16777216 then
    ZuV z len λzz=>ZoR (λi k=>k (i*ti.esize) ti.esize) zz ps λcs=>Zez e len cs H λd H'=>Zik ti.elem e d H' K
   else False
  | _=>False
theorem Zmh {B:Base} {E:Env} {H:List Entry} (hI:Inv B E H) {T:TypeId} {ti:TI} (h:ZaH P T ti) {len:Nat} {ps:List (Nat×SV)} {qs:Array (Nat×Value)} (hd:Zhu E ps qs.toList)
  {K:SV->List Entry->Prop} (hk:ZhK ti len ps H K) :
  ∃ u E' H' s,(Instr.buildSlice T len qs).run P E.w=.ok u E'.w/\Inv B E' H'/\E.le E'/\den E' s u/\K s H'/\Grow E.w E'.w:=by
 unfold ZhK at hk;split at hk
 ·exact Zmi hI h hd hk
 ·rename_i e _
  split at hk
  ·rename_i hdd
   split at hk
   ·rename_i h0
    obtain ⟨rfl,hps⟩:=h0;have hps:ps=[]:=by simpa using hps
    subst hps;have hq:qs.toList=[]:=by cases hql:qs.toList with
     | nil=>rfl
     | cons q r=>rw[hql] at hd;simp[Zhu] at hd
    obtain ⟨hu,_,ie,hie,hs,_,hzero⟩:=h.slice hdd;obtain ⟨E2,H2,s,hw2,hI2,hle2,hd2,hk⟩:=ZkX hI hk #[] 0 (f:=[]) (gs:=[]) (Loose.none B E H) (by simp) (by unfold maxLen;omega) (by simp) (by simp[Jf]);refine ⟨_,E2,H2,s,?_,hI2,hle2,hd2,hk,by rw[hw2];exact JX _ _⟩;rw[hw2];simp[Instr.buildSlice,run_underlying hu,sizeOf,typeInfo,hie,hq,Instr.fill,newRow];grind
   obtain ⟨z,hz,hk⟩:=Zdc E _ _ hk;split at hk
   ·rename_i hc
    obtain ⟨hz1,hz2,hpos,hbig⟩:=hc;obtain ⟨hu,_,ie,hie,hs,_,hzero⟩:=h.slice hdd;rw[Zo8] at hk;have hzl:=Yp _ _ hz;have hzs:ti.ezero.cells.size=ti.esize:=by grind
    have hmade:(madeCells ti.ezero.cells (len*ti.esize)).toList=(List.replicate len ti.ezero.cells.toList).flatten:=by
     rw[<-hzs];exact Zej _ _
    obtain ⟨z',cs',h1,h2,h3⟩:=ZiI (E:=E) (λi k=>k (i*ti.esize) ti.esize) (λi=>some (i*ti.esize,ti.esize)) (λi K hh=>⟨_,_,rfl,hh⟩) ps qs.toList hd _ (madeCells ti.ezero.cells (len*ti.esize)) (by rw[hmade];exact Znk hz len) hk;obtain ⟨E1,H1,d,f,hf1,hI1,hdl,hdr,hk,hL1⟩:=ZiB len _ hI h2 (Loose.none B E H) h3;have hsize:∀ (qs:List (Nat×Value)) (c c':Array Value),Instr.fill (λi=>some (i*ti.esize,ti.esize)) c qs=some c'->c'.size=c.size:=by
     intro qs;induction qs with
     | nil=>intro c c' hh;simp[Instr.fill] at hh;rw[hh]
     | cons q qs ih =>
      intro c c' hh;obtain ⟨i,v⟩:=q;simp only[Instr.fill] at hh;split at hh
      ·cases hh
      ·have:=ih _ _ hh
       rw[this,<-Array.foldl_toList,Array.toList_zipIdx];exact (Great.foldl_set (i*ti.esize) v.cells.toList 0 c).1
    have hcs:cs'.size=len*ti.esize:=by rw[hsize _ _ _ h1,size_madeCells]
    have hlen1:1<=ti.esize:=by
     grind
    have hlm:len<=maxLen:=by
     have:=Nat.mul_le_mul_left len hlen1;unfold maxLen;omega
    obtain ⟨E2,H2,s,hw2,hI2,hle2,hd2,hk⟩:=ZkX hI1 hk cs' len hL1 (by omega) hlm (by rw[hcs,hz2]) (by
     rw[hdl,hz2,<-hcs,<-Array.length_toList,List.take_length];exact hdr)
    refine ⟨_,E2,H2,s,?_,hI2,hf1.le.trans hle2,hd2,hk,by rw[hw2,hf1.w];exact JX _ _⟩;rw[hw2,hf1.w,hdl];exact run_buildSlice E.w T ti.elem len qs cs' ie ti.ezero hu hie hzero (by rw[hs];omega) (by rw[hs];omega) (by rw[hs];exact h1)
   ·exact hk.elim
  ·exact hk.elim
def ZuB:List Entry->Nat->Option (TypeId×Dp)
 | [],_=>none
 | e::_,0=>match e with
  | .arr et t _=>some (et,.flat t)
  | _=>none
 | _::r,n+1=>ZuB r n
def Zwj (s:SV) (H:List Entry):Option (TypeId×Dp) :=
 match s with
 | .own id=>ZuB H id
 | _=>none
def Zv1 (et:TypeId) (e:Dp) (ti:TI) (regs:List SV) (x:SV) (lo hi:Option Operand) (H:List Entry) (K:SV->List Entry->Prop):Prop :=
 if e.ty.size=ti.esize then closeAll (.ol et e) [x] H λd H1=>ZdT regs lo 0 λl=>ZdT regs hi d.length λh=>0<=l/\l<=h/\h<=(d.length:Int)/\XO (.ol et e) ((d.drop l.toNat).take (h.toNat-l.toNat)) H1 λcs H2=>match cs with
  | [s]=>K s H2
  | _=>False
 else False
def Zr5 (ti:TI) (regs:List SV) (x:SV) (lo hi:Option Operand) (H:List Entry) (K:SV->List Entry->Prop):Prop :=
 match ti.kind with
 | .sl=>match Zrd x H with
   | some (et,e)=>Zv1 et e ti regs x lo hi H K
   | none=>if ti.cut=true then (match Zwj x H with
     | some (et,e)=>Zv1 et e ti regs x lo hi H K
     | none=>Zou ti regs x lo hi H K) else Zou ti regs x lo hi H K
 | _=>Zou ti regs x lo hi H K
theorem Zqz {w:World} {et:TypeId} {sz n:Nat} {v:Value} {xs:List Value} (h:w.Vx 0 et sz v n xs) {l k:Nat} (hlk:l<=k) (hk:k<=n) :
  ∃ a cap,v=.slice a n cap/\n<=cap/\w.Vx 0 et sz (.slice (if cap-l=0 then a else a.map (·.add (l*sz))) (k-l) (cap-l)) (k-l) ((xs.drop (l*sz)).take ((k-l)*sz))/\(Yl (.slice (if cap-l=0 then a else a.map (·.add (l*sz))) (k-l) (cap-l))).toList=(Yl v).toList:=by
 have hx:=h.1;have hle:l*sz+(k-l)*sz<=n*sz:=by rw[<-Nat.add_mul];exact Nat.mul_le_mul_right _ (by omega)
 rcases h.2 with ⟨rfl,rfl⟩ | ⟨g,cap,cur,o,rfl,hg,hh,hcap,hml,hcs,ht⟩
 ·grind
 ·have hlen:((xs.drop (l*sz)).take ((k-l)*sz)).length=(k-l)*sz:=by
   grind
  refine ⟨_,cap,rfl,hcap,?_⟩;by_cases hz:cap-l=0
  ·rw[if_pos hz]
   have hkl:k-l=0:=by omega
   refine ⟨⟨hlen,.inr ⟨g,cap-l,cur,o,rfl,hg,hh,by omega,by omega,?_,?_⟩⟩,rfl⟩;all_goals grind
  ·rw[if_neg hz]
   have hsplit:l*sz+(cap-l)*sz=cap*sz:=by rw[<-Nat.add_mul];congr 1;omega
   refine ⟨⟨hlen,.inr ⟨g,cap-l,cur,o+l*sz,by simp only[Option.map_some,add_eq],hg,hh,by omega,by omega,by omega,?_⟩⟩,?_⟩
   ·rw[<-ht,List.drop_take,List.take_take,List.drop_drop,Nat.min_eq_left (by omega)]
   ·simp only[Option.map_some,add_eq];rfl
theorem Zrb {B:Base} {E:Env} {H:List Entry} (hI:Inv B E H) {regs:List SV} {a:Act} (hd:ZW E regs a.tmps.toList) {T:TypeId} {ti:TI} (h:ZaH P T ti) (hdd:ti.kind=.sl) {et:TypeId} {e:Dp} {x:SV} {v:Value} (hx:den E x v)
  {lo hi:Option Operand} {K:SV->List Entry->Prop} (hk:Zv1 et e ti regs x lo hi H K) :
  ∃ u E' H' s,(Instr.sliceAt T v (lo.map a.eval) (hi.map a.eval) none).run P E.w=.ok u E'.w/\Inv B E' H'/\E.le E'/\den E' s u/\K s H'/\Grow E.w E'.w:=by
 unfold Zv1 at hk;split at hk
 ·rename_i hes
  obtain ⟨E1,H1,d,f,hf,hI1,hr,hk,hL,_,_⟩:=XQ hI (show ZW E [x] [v] from ⟨hx,trivial⟩) (Loose.none B E H) hk;obtain ⟨l',hk,hll⟩:=VR (ZA hf.le _ _ hd) hk;obtain ⟨h',hk,hh⟩:=VR (ZA hf.le _ _ hd) hk;obtain ⟨h0,h1,h2,hk⟩:=hk;obtain ⟨v',xs,fps,ev,ho,hr,ef⟩:=hr;simp at ev;subst ev;obtain ⟨hu,_,ie,hie,hsz,_⟩:=h.slice hdd;obtain ⟨a0,cap,hv,hcap,ho',hb'⟩:=Zqz ho (l:=l'.toNat) (k:=h'.toNat) (by omega) (by omega);obtain ⟨f0,f3,ef0,hr0⟩:=ZmZ (λd vs f=>JI e d vs f) _ _ _ hr l'.toNat;obtain ⟨f1,f2,ef2,hr'⟩:=ZjU (λd vs f=>JI e d vs f) _ _ _ hr0 (h'.toNat-l'.toNat);have hlen:((d.drop l'.toNat).take (h'.toNat-l'.toNat)).length=h'.toNat-l'.toNat:=by grind
  have hsub:List.Sublist ((Yl v).toList++f1) (f++[]):=by
   grind
  have hL1:Loose B E1 H1 ((Yl v).toList++f1++[]):=by
   rw[List.append_nil];exact ⟨hL.nodup.sublist hsub,λg hg=>hL.free g (hsub.subset hg),λg hg=>hL.apart g (hsub.subset hg)⟩
  have hrD:ZeQ E1.S E1.w (.ol et e) ((d.drop l'.toNat).take (h'.toNat-l'.toNat)) [.slice (if cap-l'.toNat=0 then a0 else a0.map (·.add (l'.toNat*e.ty.size))) (h'.toNat-l'.toNat) (cap-l'.toNat)] ((Yl v).toList++f1) :=
   ⟨_,_,f1,rfl,by rw[hlen];exact ho',hr',by rw[hb']⟩
  obtain ⟨E2,H2,cs,hw2,hS2,hI2,hle2,hd2,hk,_,_⟩:=Qv (.ol et e) _ hI1 hrD hL1 hk;split at hk
  ·rename_i s
   simp only[ZW] at hd2;refine ⟨_,E2,H2,s,?_,hI2,hf.le.trans hle2,hd2.1,hk,by rw[hw2,hf.w];exact Grow.refl _⟩;rw[hw2,hf.w,hv,hes,<-hsz];simp only[Instr.sliceAt,Instr.slice,Sem.run_bind,run_underlying hu,Result.andThen_ok];have hl':lo.map a.eval=none/\l'=0\/∃ k,lo.map a.eval=some (.int k l'):=by
    simp_all
   have hh':hi.map a.eval=none/\h'=(d.length:Int)\/∃ k,hi.map a.eval=some (.int k h'):=by
    simp_all
   rw[Zbz E.w true d.length cap _ _ l' h' h0 h1 (by omega) hl' hh'];simp only[Result.andThen_ok,run_sizeOf hie];by_cases hz:cap-l'.toNat=0
   ·have hz':cap=l'.toNat:=by omega
    simp[hz']
   ·have hz':¬cap=l'.toNat:=by omega
    simp[hz,hz']
  ·exact hk.elim
 ·exact hk.elim
theorem Zr6 {B:Base} {E:Env} {H:List Entry} (hI:Inv B E H) {regs:List SV} {a:Act} (hd:ZW E regs a.tmps.toList) {T:TypeId} {ti:TI} (h:ZaH P T ti) {x:SV} {v:Value} (hx:den E x v)
  {lo hi:Option Operand} {K:SV->List Entry->Prop} (hk:Zr5 ti regs x lo hi H K) :
  ∃ u E' H' s,(Instr.sliceAt T v (lo.map a.eval) (hi.map a.eval) none).run P E.w=.ok u E'.w/\Inv B E' H'/\E.le E'/\den E' s u/\K s H'/\Grow E.w E'.w:=by
 unfold Zr5 at hk;split at hk
 ·rename_i hdd
  split at hk
  ·exact Zrb hI hd h hdd hx hk
  ·split at hk
   ·split at hk
    ·exact Zrb hI hd h hdd hx hk
    ·exact Zl4 hI hd h hx hk
   ·exact Zl4 hI hd h hx hk
 ·exact Zl4 hI hd h hx hk
end
section
variable {P:Program}
theorem Zob (w:World):w.grownBy w none:=⟨rfl,rfl,rfl,Nat.le_refl _,λ_ _ _=>rfl⟩
theorem ZqH {B:Base} {E:Env} {H:List Entry} (hI:Inv B E H) {id:Nat} {et:TypeId} {e:Dp} {d:List e.ty.den} {n:Int} {fp:List Nat} (he:H[id]?=some (.spl et e d n fp)) {x:e.ty.den} (hlt:n<(d.length:Int)) (hx:d[n.toNat]?=some x) :
  Inv B E (H.set id (.hsp et e d n (ZcL e.ty x) fp)):=by
 obtain ⟨v,hv,⟨xs,x1,x2,f1,ho,h0,h1,ex,el,hr1,hr2,ef⟩,hnd⟩:=hI.ent id _ he;have hl:=(List.getElem?_eq_some_iff.1 hx).1;have hd:d.drop n.toNat=x::d.drop (n.toNat+1):=by
  rw[List.drop_eq_getElem_cons hl];congr 1;exact (List.getElem?_eq_some_iff.1 hx).2
 rw[hd] at hr2;obtain ⟨vx,x3,e3,hrx,hr3⟩:=hr2;exact hI.Zqe he rfl hv (row:=none) (λg e=>by cases e) (Zob E.w) (.hsp et e d n (ZcL e.ty x) fp) (λ_ g hg=>hg)
  ⟨v,xs,x1,vx,x3,f1,hv,ho,h0,hlt,by rw[ex,e3,List.append_assoc],el,YV e.ty _ _ hrx,hr1,hr3,YI e.ty x vx hrx,ef,hnd⟩
def Zt4 (ti:TI) (s:SV) (H:List Entry) (K:SV->List Entry->Prop):Prop :=
 match s with
 | .oep id sz i off=>ZdW H id λen=>match en with
  | .spl _ e d n _=>if e.ty.size=sz then n<=i/\ZfR d i λx=>XA e.ty x λcells=>Zgb cells off λcs=>Qb ti cs λr=>K r H else False
  | _=>ZsP ti s H K
 | _=>ZsP ti s H K
theorem ZsQ {B:Base} {E:Env} {H:List Entry} (hI:Inv B E H) {T:TypeId} {ti:TI} (h:ZaH P T ti) {s:SV} {v:Value} (hs:den E s v) {K:SV->List Entry->Prop} (hk:Zt4 ti s H K) :
  ∃ u r E' H',E'.w=E.w/\Zsm P E.w (Instr.loadAt T v) u/\Inv B E' H'/\E.le E'/\den E' r u/\K r H':=by
 unfold Zt4 at hk;split at hk
 ·rename_i id sz i off
  obtain ⟨en,he,hk⟩:=Yu H hk;split at hk
  ·rename_i et e d n fp
   split at hk
   ·rename_i hsz
    obtain ⟨hni,hi0,hi1,hk⟩:=hk;have hlt:i.toNat<d.length:=by omega
    have hx:d[i.toNat]?=some d[i.toNat]:=List.getElem?_eq_getElem hlt;have hk:=hk _ hx;simp only[Y0,JW] at hk;obtain ⟨v',hv',⟨xs,x1,x2,f1,ho,h0,h1,ex,el,hr1,hr2,ef⟩,hnd⟩:=hI.ent id _ he;simp only[den] at hs;obtain ⟨b,bo,m,c,g1,rfl⟩:=hs;have:=g1.symm.trans hv';simp at this;subst this;have hx2:(d.drop n.toNat)[i.toNat-n.toNat]?=some d[i.toNat]:=by
     rw[List.getElem?_drop,show n.toNat+(i.toNat-n.toNat)=i.toNat by omega];exact hx
    obtain ⟨vs,hrv,hat⟩:=Zdh (λd vs=>YV e.ty d vs) _ _ hr2 _ _ hx2;have hcells:=ho.ZeV rfl;obtain ⟨u,r,k1,k2,k3⟩:=Zfg h E.w ⟨b,bo+(i.toNat*sz+off),none⟩ hk (vs.drop off) (QZ _ _ (YI e.ty _ vs hrv) off) (λj u hu=>by
     have h3:=hat (off+j) u (by simpa using hu);have hmul:i.toNat*e.ty.size=n.toNat*e.ty.size+(i.toNat-n.toNat)*e.ty.size:=by rw[<-Nat.add_mul,show n.toNat+(i.toNat-n.toNat)=i.toNat by omega]
     have h4:xs[i.toNat*e.ty.size+(off+j)]?=some u:=by
      rw[ex,List.getElem?_append_right (by omega),el,show i.toNat*e.ty.size+(off+j)-n.toNat*e.ty.size=(i.toNat-n.toNat)*e.ty.size+(off+j) by omega];exact h3
     have:=hcells _ u h4;rw[add_eq] at this ⊢;rw[hsz] at this;rw[show bo+(i.toNat*sz+off)+j=bo+(i.toNat*sz+(off+j)) by omega];exact this)
    refine ⟨u,r,E,H,rfl,λw' hst=>?_,hI,Env.le.refl E,k2,k3⟩;simp only[Instr.loadAt,Instr.sureAddr,pure_bind];exact k1 w' hst
   ·exact hk.elim
  ·exact ZpM hI h hs hk
 ·exact ZpM hI h hs hk
def ZkR (ti:TI) (id sz:Nat) (off:Nat) (sx:SV) (H:List Entry) (K:List Entry->Prop):Prop :=
 if (sx.whole&&ZmN sx.cells&&ZmM sx.cells ti.size)=true then ZdW H id λen=>match en with
  | .hsp et e d j cells fp=>if cells.length=sz/\off+ti.size<=sz then Zis cells off sx.cells λnew=>ZeR H id (.hsp et e d j new fp) K else False
  | _=>False
 else False
def Zr8 (ti:TI) (sa sx:SV) (H:List Entry) (K:List Entry->Prop):Prop :=
 match sa with
 | .oep id sz i off=>ZdW H id λen=>match en with
  | .spl et e d n fp=>i=n/\ZfR d n λx=>XA e.ty x λcells=>ZeR H id (.hsp et e d n cells fp) λH'=>ZkR ti id sz off sx H' K
  | .hsp _ _ _ j _ _=>i=j/\ZkR ti id sz off sx H K
  | _=>Zp9 ti sa sx H K
 | _=>Zp9 ti sa sx H K
theorem Zma {B:Base} {E:Env} {H:List Entry} (hI:Inv B E H) {T:TypeId} {ti:TI} (h:ZaH P T ti) {id sz:Nat} {i:Int} {off:Nat} {sx:SV} {va vx:Value} (ha:den E (.oep id sz i off) va) (hx:den E sx vx)
  {et:TypeId} {e:Dp} {d:List e.ty.den} {cells:List SV} {fp:List Nat} (he1:H[id]?=some (.hsp et e d i cells fp)) {K:List Entry->Prop} (hk:ZkR ti id sz off sx H K):∃ E' H',(Instr.storeAt T va vx).run P E.w=.ok () E'.w/\Inv B E' H'/\E.le E'/\K H'/\E.w.grownBy E'.w (Yl va):=by
 unfold ZkR at hk;split at hk
 ·rename_i hc
  simp only[Bool.and_eq_true,ZmM,beq_iff_eq] at hc;obtain ⟨⟨hw,h1⟩,hlen⟩:=hc;have hdx:=QX hx hw;have hl:=Yp _ _ hdx;have hone:=ZdR _ _ hdx h1;have hsz:vx.cells.size=ti.size:=by rw[<-Array.length_toList,<-hl,hlen]
  have hsz':vx.cells.toList.length=ti.size:=by rw[<-hl,hlen]
  obtain ⟨en,hen,hk⟩:=Yu H hk;have:=he1.symm.trans hen;simp at this;subst this;simp only at hk;split at hk
  ·rename_i hcl
   obtain ⟨hcl,hfit⟩:=hcl;rw[ZeN] at hk;simp only[YO] at hk;simp only[den] at ha;obtain ⟨b,bo,n,c,g1,rfl⟩:=ha;obtain ⟨v,xs,x1,vxs,x2,f1,k1,ho,hi0,hi1,ex,el,el2,hr1,hr2,hdc,ef,hnd⟩:=hI.ent id _ he1;have:=g1.symm.trans k1;simp at this;subst this;have hvl:vxs.length=sz:=by rw[<-Yp _ _ hdc];exact hcl
   have hes:e.ty.size=sz:=by rw[<-el2,hvl]
   rcases ho.2 with ⟨hv,_⟩ | ⟨g,cap,cur,o,hv,hg0,hh,hcap,hml,hcs,htake⟩
   ·simp at hv
   ·simp only[Value.slice.injEq,Option.some.injEq,Addr.mk.injEq,and_true] at hv
    obtain ⟨⟨hbg,hbo⟩,hnl,hcc⟩:=hv;subst hbg;subst hbo;rw[hes] at ho hcs htake el;have hlt:i.toNat<d.length:=by omega
    have hcl':cur.toList.length=cur.size:=Array.length_toList;have hNle:bo+d.length*sz<=cur.toList.length:=by rw[hcl'];exact Nat.le_trans (Nat.add_le_add_left (Nat.mul_le_mul_right _ hcap) _) hcs
    have hit:i.toNat*sz+sz<=d.length*sz:=by rw[<-Nat.succ_mul];exact Nat.mul_le_mul_right _ hlt
    have hrun:=Zfq h E.w b (bo+(i.toNat*sz+off)) vx cur et hh hsz (by rw[<-hcl'];omega) hone;have hg:=Zcb E.w b (cur.toList.take (bo+(i.toNat*sz+off))++vx.cells.toList++cur.toList.drop (bo+(i.toNat*sz+off)+ti.size)).toArray;have hbfp:b∈fp:=by rw[ef];simp[Yl]
    have hle:=Zbi hg hI.Slt (λg eq=>by simp at eq;subst eq;exact (hI.free id _ _ _ he1 rfl g1 hbfp).1);have hkeep:∀ f':List Nat,(∀ g∈f',g∈f1)->∀ g∈f',(E.w.setRow b (cur.toList.take (bo+(i.toNat*sz+off))++vx.cells.toList++cur.toList.drop (bo+(i.toNat*sz+off)+ti.size)).toArray).heap[g]?=E.w.heap[g]?:=by
     intro f' hsub g hgm;have hgfp:g∈fp:=by rw[ef];simp[hsub g hgm]
     refine hg.block g (hI.free id _ _ _ he1 rfl g1 hgfp).2.2 (λeq=>?_);simp at eq;subst eq;rw[ef] at hnd;simp only[Yl,Option.toList,List.cons_append,List.nil_append,List.nodup_cons] at hnd;exact hnd.1 (hsub g hgm)
    have hsp:=Zfk (t:=sz) cur.toList vx.cells.toList bo (d.length*sz) i.toNat off hNle hit (by rw[hsz'];omega);rw[hsz',htake] at hsp;have a1:xs.take (i.toNat*sz)=x1:=by rw[ex,<-el,List.append_assoc,List.take_left]
    have a2:(xs.drop (i.toNat*sz)).take sz=vxs:=by rw[ex,<-el,List.append_assoc,List.drop_left,<-hvl,List.take_left]
    have a3:xs.drop (i.toNat*sz+sz)=x2:=by rw[ex,<-el,<-hvl,show x1.length+vxs.length=(x1++vxs).length by simp,List.drop_left]
    rw[a1,a2,a3] at hsp;have hnew:=Zdn (ZA hle _ _ hdc) (ZA hle _ _ hdx) off;rw[hsz'] at hnew;refine ⟨⟨E.S,E.w.setRow b _,E.ids⟩,_,hrun,hI.Zqe he1 rfl g1 (row:=some b) (λg eq=>by simp at eq;subst eq;exact hbfp) hg (.hsp et e d i (cells.take off++(sx.cells++cells.drop (off+sx.cells.length))) fp) (λ_ g hg=>hg) ?_,hle,hk,hg⟩;refine ⟨_,x1++(vxs.take off++vx.cells.toList++vxs.drop (off+ti.size))++x2,x1,_,x2,f1,g1,⟨?_,.inr ⟨b,cap,_,bo,?_,hg0,setRow_heap E.w b cur _ et (0,0) hh,by simpa using hcap,hml,?_,?_⟩⟩,hi0,hi1,rfl,by rw[el,hes],?_,?_,?_,hnew,ef,hnd⟩
    ·have hxl:=ho.1
     rw[ex] at hxl;rw[hes];simp only[List.length_append,List.length_take,List.length_drop,hsz'] at hxl ⊢;omega
    ·rw[hnl,hcc]
    ·rw[List.size_toArray,hes]
     simp only[List.length_append,List.length_take,List.length_drop,hsz'];rw[<-hcl'] at hcs;omega
    ·rw[List.toList_toArray,hes];exact hsp
    ·rw[hes]
     simp only[List.length_append,List.length_take,List.length_drop,hsz'];omega
    ·exact Y5 _ _ _ (λd vs f hs=>Yg hle.S hle.w e d vs f (hkeep f (λg hg=>hs g hg))) hr1
    ·exact XT (λd vs=>Z6 hle.S hle.w e.ty d vs) _ _ hr2
  ·exact hk.elim
 ·exact hk.elim
theorem Zr9 {B:Base} {E:Env} {H:List Entry} (hI:Inv B E H) {T:TypeId} {ti:TI} (h:ZaH P T ti) {sa sx:SV} {va vx:Value} (ha:den E sa va) (hx:den E sx vx)
  {K:List Entry->Prop} (hk:Zr8 ti sa sx H K):∃ E' H',(Instr.storeAt T va vx).run P E.w=.ok () E'.w/\Inv B E' H'/\E.le E'/\K H'/\E.w.grownBy E'.w (Yl va):=by
 unfold Zr8 at hk;split at hk
 ·rename_i id sz i off
  obtain ⟨en,he,hk⟩:=Yu H hk;split at hk
  ·rename_i et e d n fp
   obtain ⟨rfl,h0,h1,hk⟩:=hk;have hlt:i.toNat<d.length:=by omega
   have hg:d[i.toNat]?=some d[i.toNat]:=List.getElem?_eq_getElem hlt;have hk:=hk _ hg;simp only[Y0,YO] at hk;have hI1:=ZqH hI he h1 hg;exact Zma hI1 h ha hx (List.getElem?_set_self (List.getElem?_eq_some_iff.1 he).1) hk
  ·rename_i et e d j cells fp
   obtain ⟨rfl,hk⟩:=hk;exact Zma hI h ha hx he hk
  ·exact Zoy hI h ha hx hk
 ·exact Zoy hI h ha hx hk
def Zq5 (et:TypeId) (e:Dp) (id:Nat) (H:List Entry) (K:List e.ty.den->Int->List Entry->Prop):Prop :=
 ZdW H id λen=>match en with
  | .arr et' t d=>if h:t=e.ty then (if et'=et then ZeR H id .gone λH'=>Zqh h d λd'=>K d' 0 H' else False) else False
  | .spl et' e' d n _=>if h:e'=e then (if et'=et then ZeR H id .gone λH'=>ZoK h d λd'=>K d' n H' else False) else False
  | .hsp et' e' d i cells _=>if h:e'=e then (if et'=et then ZeR H id .gone λH0=>ZoK h d λd'=>Qw e cells H0 λx rest H1=>match rest with
    | []=>K (d'.set i.toNat x) (i+1) H1
    | _=>False
   else False) else False
  | _=>False
theorem Zq6 {B:Base} {et:TypeId} {e:Dp} {id:Nat} {E:Env} {H:List Entry} (hI:Inv B E H) {gs:List Nat} (hL:Loose B E H gs) {K:List e.ty.den->Int->List Entry->Prop} (hk:Zq5 et e id H K) :
  ∃ E' H' d n u f,Frz E H E' H'/\Inv B E' H'/\E'.ids[id]?=some u/\(∀ c,H[id]?≠some (.box c))/\ZuW E'.S E'.w et e d n u f/\K d n H'/\Loose B E' H' (f++gs)/\∀ (i:Nat) (c:List SV),H[i]?=some (.box c)->H'[i]?=some (.box c):=by
 unfold Zq5 at hk;obtain ⟨en,he,hq⟩:=Yu H hk;clear hk;split at hq
 ·rename_i et' t d
  split at hq
  ·rename_i ht;subst ht
   split at hq
   ·rename_i het;subst het
    rw[YO,Zpn] at hq;obtain ⟨v,xs,e1,h2,h3⟩:=hI.ent id _ he;refine ⟨E,_,d,0,v,(Yl v).toList,Frz.one he rfl e1 rfl (Env.le.refl E) (λb hb=>.inl hb),hI.drop id,e1,(λc hc=>by rw[he] at hc;cases hc),⟨xs,[],xs,[],h2,by omega,by omega,rfl,by simp,⟨rfl,rfl⟩,h3,by simp⟩,hq,?_,Zf5 he (λc h=>by cases h)⟩;exact hL.take hI he rfl e1 (by cases Yl v<;>simp) (λg hg=>by
     show Yl v=some g;simpa using hg)
   ·exact hq.elim
  ·exact hq.elim
 ·rename_i et' e' d n fp
  split at hq
  ·rename_i ht;subst ht
   split at hq
   ·rename_i het;subst het
    rw[YO,ZgA] at hq;obtain ⟨v,e1,hr,h5⟩:=hI.ent id _ he;exact ⟨E,_,d,n,v,fp,Frz.one he rfl e1 rfl (Env.le.refl E) (λb hb=>.inl hb),hI.drop id,e1,(λc hc=>by rw[he] at hc;cases hc),hr,hq,hL.take hI he rfl e1 h5 (λg hg=>hg),Zf5 he (λc h=>by cases h)⟩
   ·exact hq.elim
  ·exact hq.elim
 ·rename_i et' e' d i cells fp
  split at hq
  ·rename_i ht;subst ht
   split at hq
   ·rename_i het;subst het
    rw[YO,ZgA] at hq;obtain ⟨v,xs,x1,vx,x2,f1,e1,h2,hi0,hi1,ex,el,el2,hr1,hr2,hdc,ef,hnd⟩:=hI.ent id _ he;have t1:Frz E H E (H.set id .gone):=Frz.one he rfl e1 rfl (Env.le.refl E) (λb hb=>.inl hb);obtain ⟨E',H',x,rest,u1,u2,f,hf,hI',eu,hrx,hrest,hq,hL',hT,hb⟩:=JV e' cells (hI.drop id) hdc (hL.take hI he rfl e1 hnd (λg hg=>hg)) hq;split at hq
    ·have hv2:u2=[]:=by cases u2 with
      | nil=>rfl
      | cons=>simp[ZW] at hrest
     subst hv2;rw[List.append_nil] at eu;subst eu;have hkeep:∀ (g:Nat),E'.w.heap[g]?=E.w.heap[g]?:=λg=>by rw[hf.w]
     have hlt:i.toNat<d.length:=by omega
     have hperm:(f++(fp++gs)).Perm ((Yl v).toList++(f1++f)++gs):=by
      rw[<-List.append_assoc];refine List.Perm.append_right gs ?_;rw[ef,<-List.append_assoc (Yl v).toList];exact List.perm_append_comm
     have hlen:(d.set i.toNat x).take (i.toNat+1)=d.take i.toNat++[x]:=by
      rw[List.take_add_one,List.getElem?_set_self hlt,List.take_set,List.set_eq_of_length_le (by simp;omega)];rfl
     refine ⟨E',H',d.set i.toNat x,i+1,v,(Yl v).toList++(f1++f),t1.trans hf,hI',by rw[hf.ids];exact e1,(λc hc=>by rw[he] at hc;cases hc),⟨xs,x1++vx,x2,f1++f,?_,by omega,by simp;omega,by rw[ex],?_,?_,?_,rfl⟩,hq,hL'.perm hperm,λj c hj=>hb j c (Zf5 he (λc h=>by cases h) j c hj)⟩
     ·rw[List.length_set,hf.w];exact h2
     ·rw[List.length_append,el,el2,show (i+1).toNat=i.toNat+1 by omega,Nat.succ_mul]
     ·rw[show (i+1).toNat=i.toNat+1 by omega,hlen]
      exact Zem _ _ _ _ _ _ (Y5 _ _ _ (λd vs f _=>Yg hf.le.S hf.le.w e' d vs f (λg _=>hkeep g)) hr1) ⟨vx,[],f,[],by simp,by simp,hrx,rfl,rfl⟩
     ·rw[show (i+1).toNat=i.toNat+1 by omega,List.drop_set_of_lt (by omega)]
      exact XT (λd vs=>Z6 hf.le.S hf.le.w e'.ty d vs) _ _ hr2
    ·exact hq.elim
   ·exact hq.elim
  ·exact hq.elim
 ·exact hq.elim
end
end Go.Sx
