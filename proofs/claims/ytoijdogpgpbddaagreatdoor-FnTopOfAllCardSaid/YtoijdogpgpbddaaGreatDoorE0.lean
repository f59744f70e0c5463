/-
  Lists of one's own that begin within their block: what the kit says of lists that begin at a block's head, said anew.
-/
import Derived.WalkKit
import Derived.Great.BuildSlice
import Derived.Laws.StructEq
import Derived.Laws.MakeOwn
import Derived.Laws.OwnMore
namespace Go
theorem U9:type_of% @Array.getElem?_eq_some_iff:=@Array.getElem?_eq_some_iff
theorem KP:type_of% @Array.getElem?_toList:=@Array.getElem?_toList
theorem UK:type_of% @Array.length_toList:=@Array.length_toList
theorem Ur:type_of% @Bool.and_eq_true:=@Bool.and_eq_true
theorem KA:type_of% @Bool.eq_iff_iff:=@Bool.eq_iff_iff
theorem KX:type_of% @Bool.false_and:=@Bool.false_and
theorem Ka:type_of% @Bool.false_eq_true:=@Bool.false_eq_true
theorem UT:type_of% @Bool.not_eq_true':=@Bool.not_eq_true'
theorem KQ:type_of% @Bool.or_eq_true:=@Bool.or_eq_true
theorem KU:type_of% @Bool.true_and:=@Bool.true_and
theorem US:type_of% @Classical.byContradiction:=@Classical.byContradiction
theorem KS:type_of% @Classical.choose_spec:=@Classical.choose_spec
theorem K1:type_of% @Int.add_zero:=@Int.add_zero
theorem U6:type_of% @Int.le_refl:=@Int.le_refl
theorem Uf:type_of% @Int.lt_irrefl:=@Int.lt_irrefl
theorem KL:type_of% @Int.mul_le_mul_of_nonneg_left:=@Int.mul_le_mul_of_nonneg_left
theorem U1:type_of% @Int.tdiv_eq_ediv_of_nonneg:=@Int.tdiv_eq_ediv_of_nonneg
theorem Kq:type_of% @Int.tmod_lt_of_pos:=@Int.tmod_lt_of_pos
theorem Kx:type_of% @Int.tmod_nonneg:=@Int.tmod_nonneg
theorem Up:type_of% @Int.toNat_natCast:=@Int.toNat_natCast
theorem KD:type_of% @List.all_eq_true:=@List.all_eq_true
theorem KO:type_of% @List.any_eq_true:=@List.any_eq_true
theorem Uj:type_of% @List.append_assoc:=@List.append_assoc
theorem Un:type_of% @List.append_nil:=@List.append_nil
theorem U3:type_of% @List.cons_append:=@List.cons_append
theorem Kp:type_of% @List.countP_append:=@List.countP_append
theorem KN:type_of% @List.countP_pos_iff:=@List.countP_pos_iff
theorem Kw:type_of% @List.drop_eq_getElem_cons:=@List.drop_eq_getElem_cons
theorem KV:type_of% @List.drop_left:=@List.drop_left
theorem KE:type_of% @List.drop_zero:=@List.drop_zero
theorem UI:type_of% @List.eq_nil_of_length_eq_zero:=@List.eq_nil_of_length_eq_zero
theorem Uy:type_of% @List.ext_getElem?:=@List.ext_getElem?
theorem Ki:type_of% @List.filter_append:=@List.filter_append
theorem Kh:type_of% @List.findIdx?_eq_some_iff_getElem:=@List.findIdx?_eq_some_iff_getElem
theorem Ut:type_of% @List.getElem?_append_left:=@List.getElem?_append_left
theorem UE:type_of% @List.getElem?_append_right:=@List.getElem?_append_right
theorem Kg:type_of% @List.getElem?_cons_succ:=@List.getElem?_cons_succ
theorem Ky:type_of% @List.getElem?_drop:=@List.getElem?_drop
theorem Ub:type_of% @List.getElem?_eq_getElem:=@List.getElem?_eq_getElem
theorem UA:type_of% @List.getElem?_eq_none:=@List.getElem?_eq_none
theorem Ua:type_of% @List.getElem?_eq_some_iff:=@List.getElem?_eq_some_iff
theorem UL:type_of% @List.getElem?_map:=@List.getElem?_map
theorem U4:type_of% @List.getElem?_of_mem:=@List.getElem?_of_mem
theorem Kv:type_of% @List.getElem?_range:=@List.getElem?_range
theorem Kb:type_of% @List.getElem?_replicate:=@List.getElem?_replicate
theorem UR:type_of% @List.getElem?_set:=@List.getElem?_set
theorem UF:type_of% @List.getElem?_set_ne:=@List.getElem?_set_ne
theorem UG:type_of% @List.getElem?_set_self:=@List.getElem?_set_self
theorem UB:type_of% @List.getElem?_take:=@List.getElem?_take
theorem KY:type_of% @List.isEmpty_iff:=@List.isEmpty_iff
theorem Ug:type_of% @List.length_append:=@List.length_append
theorem Um:type_of% @List.length_cons:=@List.length_cons
theorem UY:type_of% @List.length_drop:=@List.length_drop
theorem KM:type_of% @List.length_eq_zero_iff:=@List.length_eq_zero_iff
theorem UW:type_of% @List.length_map:=@List.length_map
theorem Uo:type_of% @List.length_nil:=@List.length_nil
theorem UQ:type_of% @List.length_replicate:=@List.length_replicate
theorem UH:type_of% @List.length_set:=@List.length_set
theorem Uz:type_of% @List.length_singleton:=@List.length_singleton
theorem Uk:type_of% @List.length_take:=@List.length_take
theorem Kd:type_of% @List.map_append:=@List.map_append
theorem Kj:type_of% @List.map_congr_left:=@List.map_congr_left
theorem KZ:type_of% @List.map_nil:=@List.map_nil
theorem Uu:type_of% @List.mem_append:=@List.mem_append
theorem UD:type_of% @List.mem_cons:=@List.mem_cons
theorem UM:type_of% @List.mem_cons_of_mem:=@List.mem_cons_of_mem
theorem UJ:type_of% @List.mem_cons_self:=@List.mem_cons_self
theorem KI:type_of% @List.mem_filter:=@List.mem_filter
theorem UC:type_of% @List.mem_iff_getElem?:=@List.mem_iff_getElem?
theorem Ke:type_of% @List.mem_map:=@List.mem_map
theorem Ud:type_of% @List.mem_of_getElem?:=@List.mem_of_getElem?
theorem KJ:type_of% @List.mem_of_mem_take:=@List.mem_of_mem_take
theorem U5:type_of% @List.mem_or_eq_of_mem_set:=@List.mem_or_eq_of_mem_set
theorem KG:type_of% @List.mem_range:=@List.mem_range
theorem Ux:type_of% @List.mem_singleton:=@List.mem_singleton
theorem Uw:type_of% @List.nil_append:=@List.nil_append
theorem U2:type_of% @List.nodup_append:=@List.nodup_append
theorem KW:type_of% @List.nodup_nil:=@List.nodup_nil
theorem UZ:type_of% @List.not_mem_nil:=@List.not_mem_nil
theorem U0:type_of% @List.perm_append_comm:=@List.perm_append_comm
theorem KB:type_of% @List.replicate_succ:=@List.replicate_succ
theorem Kk:type_of% @List.size_toArray:=@List.size_toArray
theorem KH:type_of% @List.take_append_drop:=@List.take_append_drop
theorem KF:type_of% @List.take_left:=@List.take_left
theorem Uq:type_of% @List.take_length:=@List.take_length
theorem KC:type_of% @List.take_of_length_le:=@List.take_of_length_le
theorem Kt:type_of% @List.take_zero:=@List.take_zero
theorem U7:type_of% @Nat.add_zero:=@Nat.add_zero
theorem UO:type_of% @Nat.le_refl:=@Nat.le_refl
theorem Ko:type_of% @Nat.le_trans:=@Nat.le_trans
theorem KT:type_of% @Nat.lt_irrefl:=@Nat.lt_irrefl
theorem UP:type_of% @Nat.lt_of_lt_of_le:=@Nat.lt_of_lt_of_le
theorem KK:type_of% @Nat.lt_trichotomy:=@Nat.lt_trichotomy
theorem Ku:type_of% @Nat.mul_le_mul:=@Nat.mul_le_mul
theorem U8:type_of% @Nat.mul_le_mul_right:=@Nat.mul_le_mul_right
theorem Kc:type_of% @Nat.succ_mul:=@Nat.succ_mul
theorem Us:type_of% @Nat.zero_add:=@Nat.zero_add
theorem Uv:type_of% @Option.bind_eq_some_iff:=@Option.bind_eq_some_iff
theorem UX:type_of% @Option.getD_some:=@Option.getD_some
theorem Km:type_of% @Option.map_eq_some_iff:=@Option.map_eq_some_iff
theorem UV:type_of% @Option.map_some:=@Option.map_some
theorem Kl:type_of% @beq_iff_eq:=@beq_iff_eq
theorem UN:type_of% @congrArg:=@congrArg
theorem Kz:type_of% @decide_eq_decide:=@decide_eq_decide
theorem Kr:type_of% @decide_eq_false_iff_not:=@decide_eq_false_iff_not
theorem UU:type_of% @decide_eq_true:=@decide_eq_true
theorem Ul:type_of% @decide_eq_true_eq:=@decide_eq_true_eq
theorem Kf:type_of% @decide_eq_true_iff:=@decide_eq_true_iff
theorem Uh:type_of% @if_false:=@if_false
theorem Ue:type_of% @if_neg:=@if_neg
theorem Uc:type_of% @if_pos:=@if_pos
theorem QP{c:Prop}{_:Decidable c}{α:Sort _}{t e:α}(h:c:=by omega):ite c t e=t:=if_pos h
theorem QQ{c:Prop}{_:Decidable c}{α:Sort _}{t e:α}(h:¬c:=by omega):ite c t e=e:=if_neg h
theorem Ui:type_of% @if_true:=@if_true
theorem Ks:type_of% @or_false:=@or_false
set_option linter.unusedVariables false
set_option linter.unusedSimpArgs false
def World.Zaf (w:World) (base:Nat) (e:TypeId) (size:Nat) (v:Value) (n:Nat) (xs:List Value):Prop :=
  xs.length=n*size/\
  ((v=.slice none 0 0/\n=0)\/
   ∃ g c cur o,v=.slice (some ⟨g,o,none⟩) n c/\base<=g/\w.heap[g]?=some (.cells cur e (0,0))/\n<=c/\c<=maxLen/\o+c*size<=cur.size/\(cur.toList.drop o).take (n*size)=xs)
section
variable {w:World} {base:Nat} {e:TypeId} {size:Nat} {v:Value} {n:Nat} {xs:List Value}
theorem World.Zll (w:World) (base:Nat) (e:TypeId) (size:Nat):w.Zaf base e size (.slice none 0 0) 0 []:=⟨by simp,.inl ⟨rfl,rfl⟩⟩
theorem World.Zaf.lt (h:w.Zaf base e size v n xs):∀k,v.ownBlock=some k->base<=k/\k<w.heap.size:=by
 intro k H;rcases h.2 with⟨rfl,_⟩|⟨g,c,cur,o,rfl,b,a,_⟩
 ·simp[Value.ownBlock]at H
 ·simp[Value.ownBlock]at H
  subst H;exact⟨b,(U9.1 a).1⟩
theorem World.Zaf.kept {w':World} {row:Option Nat} (h:w.Zaf base e size v n xs) (d:w.grownBy w' row) (a:v.ownBlock=none\/v.ownBlock≠row):w'.Zaf base e size v n xs:=by
 refine⟨h.1,?_⟩;rcases h.2 with f|⟨g,c,cur,o,rfl,b,H,rest⟩
 ·exact .inl f
 ·refine .inr ⟨g,c,cur,o,rfl,b,?_,rest⟩
  rw[d.block g (U9.1 H).1 (by simpa[Value.ownBlock]using a)];exact H
theorem World.Zaf.ZiY (h:w.Zaf base e size v n xs) {g o l c:Nat} (d:v=.slice (some ⟨g,o,none⟩) l c):∀j u,xs[j]?=some u->w.cell? ((⟨g,o,none⟩:Addr).add j)=some u:=by
 intro j u a;rcases h.2 with⟨rfl,_⟩|⟨G,p,cur,o',rfl,_,b,_,_,_,H⟩
 ·cases d
 ·injection d with E i k
  injection E with E
  injection E with E f
  subst E;subst f;rw[Addr.add_lit,cell_of_row w G (o'+j) cur e (0,0) b];rw[<-H,UB]at a;split at a
  ·rw[Ky]at a;simpa using a
  ·cases a
end
section
variable {P:Program} (w:World)
theorem ZiO (t ty e:TypeId) (i:TypeInfo) (r:P.underlying t=some (.slice e)) (l:P.info? e=some i)
  (g o s p:Nat) (cur:Array Value) (k:w.heap[g]?=some (.cells cur e (0,0)))
  (a:Addr) (m c:Nat) (n:List Value) (q:n.length=m*i.size) (h:∀j u,n[j]?=some u->w.cell? (a.add j)=some u) (d:∀u∈n,u.oneCell'=true)
  (H:s+m<=p) (b:o+s*i.size+n.length<=cur.size) :
  (Builtin.append_ #[t,t] ty #[.slice (some ⟨g,o,none⟩) s p,.slice (some a) m c]).run P w =
   .ok (.slice (some ⟨g,o,none⟩) (s+m) p) (w.setRow g (cur.toList.take (o+s*i.size)++n++cur.toList.drop (o+s*i.size+n.length)).toArray):=by
 have f:=run_firstCells_some (P:=P) w i.size m a m c n q h;have hst:=run_storeCells_at P g (o+s*i.size) e n 0 cur w k (by simpa using b) d;simp only[U7]at hst;simp[Builtin.append_,run_underlying r,sizeOf,typeInfo,l,Builtin.lenOf,H,f,Addr.add_lit,hst]
variable (base:Nat)
theorem ZgE (t ty e:TypeId) (i:TypeInfo) (size:Nat) (r:P.underlying t=some (.slice e)) (l:P.info? e=some i)
  (v:Value) (n:Nat) (xs:List Value) (h:w.Zaf base e size v n xs) :
  (Builtin.append_ #[t,t] ty #[v,.slice none 0 0]).run P w=.ok v w:=by
 rcases h.2 with⟨rfl,rfl⟩|⟨g,p,cur,o,rfl,_,_,c,_⟩
 ·simp[Builtin.append_,run_underlying r,sizeOf,typeInfo,l,Builtin.lenOf,Builtin.firstCells]
 ·simp[Builtin.append_,run_underlying r,sizeOf,typeInfo,l,Builtin.lenOf,Builtin.firstCells,c,storeCells]
theorem Zna (t ty e:TypeId) (i:TypeInfo) (z:Value) (size bytes:Nat) (J:P.underlying t=some (.slice e)) (G:P.info? e=some i) (T:i.zero=some z)
  (B:i.size=size) (L:i.bytes=bytes) (O:z.cells.size=size) (a0:0<size)
  (v:Value) (n:Nat) (xs:List Value) (h:w.Zaf base e size v n xs)
  (a:Addr) (m c:Nat) (s:List Value) (y:s.length=m*size) (H:∀j u,s[j]?=some u->w.cell? (a.add j)=some u) (V:∀u∈s,u.oneCell'=true)
  (D:n+m<=maxLen) (f:(n+m)*bytes<=140737488355328) (q:base<=w.heap.size) :
  ∃v' w',(Builtin.append_ #[t,t] ty #[v,.slice (some a) m c]).run P w=.ok v' w'/\w'.Zaf base e size v' (n+m) (xs++s)/\w.grownBy w' v.ownBlock/\
   (v'=.slice none 0 0<->v=.slice none 0 0/\m=0):=by
 subst B;subst L
 have I:n+m<=9223372036854775807:=by simp only[maxLen]at D;omega
 have l:(xs++s).length=(n+m)*i.size:=by rw[Ug,h.1,y,Nat.add_mul]
 have grown:∀(d:Nat),d<n+m->∀(row:Option Nat),
   (w.drew.alloc (.cells (xs.toArray++s.toArray++Builtin.zeroCells z.cells (grownCap w (n+m) d e-(n+m))) e)).Zaf base e i.size
    (.slice (some ⟨w.heap.size,0,none⟩) (n+m) (grownCap w (n+m) d e)) (n+m) (xs++s)/\
   w.grownBy (w.drew.alloc (.cells (xs.toArray++s.toArray++Builtin.zeroCells z.cells (grownCap w (n+m) d e-(n+m))) e)) row:=by
  intro d ho row;have M:=grownCap_ge w (n+m) d e;have x:grownCap w (n+m) d e<=maxLen:=grownCap_le_maxLen w (n+m) d e D;refine⟨⟨l,.inr ⟨w.heap.size,_,_,0,rfl,q,heap_alloc_new w.drew _,M,x,?_,?_⟩⟩,⟨rfl,rfl,rfl,by simp,λk N _=>heap_alloc_old w.drew _ N⟩⟩
  ·simp only[Array.size_append,Kk,size_zeroCells,O,h.1,y,<-Nat.add_mul]
   rw[Us];exact U8 _ (by omega)
  ·simp only[Array.toList_append,Uj,KE]
   rw[<-Uj,<-l];exact KF
 rcases h.2 with⟨rfl,rfl⟩|⟨g,p,cur,o,rfl,K,Q,Z,x,X,C⟩
 ·have hx:xs=[]:=UI (by simpa using h.1)
  subst hx;by_cases R:m=0
  ·subst R
   have Y:s=[]:=UI (by simpa using y);subst Y;refine⟨.slice none 0 0,w,?_,World.Zll w base e i.size,⟨rfl,rfl,rfl,UO _,λ_ _ _=>rfl⟩,by simp⟩;simp[Builtin.append_,run_underlying J,sizeOf,typeInfo,G,Builtin.lenOf,Builtin.firstCells,loadCells,loadCellsFrom]
  ·have F:=run_append_nil (P:=P) w t ty e i z J G T a m c s y H (by omega) (by omega) (by have W:=f;simp only[Us]at W;omega)
   have r:=grown 0 (by omega) (Value.ownBlock (.slice none 0 0));simp only[Us,Uw,Array.empty_append]at r ⊢;exact⟨_,_,F,r.1,r.2,by simp[R]⟩
 ·by_cases b:n+m<=p
  ·have S:n*i.size+m*i.size<=p*i.size:=by rw[<-Nat.add_mul];exact U8 _ b
   have E:o+n*i.size+s.length<=cur.size:=by rw[y];omega
   have F:=ZiO (P:=P) w t ty e i J G g o n p cur Q a m c s y H V b E;have a1:=h.1;refine⟨_,_,F,⟨l,.inr ⟨g,p,_,o,rfl,K,setRow_heap w g cur _ e _ Q,b,x,?_,?_⟩⟩,⟨rfl,rfl,rfl,by simp,λk _ N=>setRow_other w g k _ (λe=>N (by simp[Value.ownBlock,e]))⟩,by simp⟩
   ·simp only[Kk,Ug,Uk,UY,UK]
    omega
   ·have U:cur.toList.take (o+n*i.size)=cur.toList.take o++xs:=by rw[List.take_add,C]
    simp only[U,Uj];rw[List.drop_append_of_le_length (by rw[Uk,UK];omega),List.drop_eq_nil_of_le (by rw[Uk];omega),Uw,<-Uj,<-l];exact KF
  ·have A:∀j u,xs[j]?=some u->w.cell? ((⟨g,o,none⟩:Addr).add j)=some u:=h.ZiY rfl
   have F:=run_append_grow (P:=P) w t ty e i z J G T ⟨g,o,none⟩ n p xs h.1 A a m c s y H (by omega) (by omega) (growslice_fits (by omega) f);have r:=grown p (by omega) (Value.ownBlock (.slice (some ⟨g,o,none⟩) n p));exact⟨_,_,F,r.1,r.2,by simp⟩
end
end Go
namespace Go.Sx
set_option linter.unusedVariables false
set_option linter.unusedSimpArgs false
inductive Ty
 |int (k:IntKind)
 |bool
 |str
 |sl (t:Ty)
 |unit
 |pair (a b:Ty)
 |ptr (t:Ty)
 |fn (f:FuncId) (t:Ty)
 |nptr (t:Ty)
 |mp (k v:Ty)
 deriving DecidableEq
@[reducible] def Ty.den:Ty->Type
 | .int _=>Int
 | .bool=>Bool
 | .str=>List UInt8
 | .sl t=>List t.den
 | .unit=>Unit
 | .pair a b=>a.den×b.den
 | .ptr t=>t.den
 | .fn _ t=>t.den
 | .nptr t=>Option t.den
 | .mp k v=>List (k.den×v.den)
def Zr {α β:Type} (d:α×β) (K:α->β->Prop):Prop:=match d with
 |(x,y)=>K x y
theorem Zag {α β:Type} (d:α×β) (K:α->β->Prop):Zr d K=K d.1 d.2:=rfl
def ZxJ {t' t:Ty} (h:t'=t) (d:List t'.den) (K:List t.den->Prop):Prop:=Eq.rec (motive:=λt _=>(List t.den->Prop)->Prop) (λK=>K d) h K
def ZEr {t' t:Ty} (h:t'=t) (d:Option t'.den) (K:Option t.den->Prop):Prop:=Eq.rec (motive:=λt _=>(Option t.den->Prop)->Prop) (λK=>K d) h K
theorem Zwr {t' t:Ty} (h:t'=t) (d:Option t'.den) (K:Option t.den->Prop):ZEr h d K=K (h▸d):=by subst h;rfl
theorem Zwq {t' t:Ty} (h:t'=t) (d:List t'.den) (K:List t.den->Prop):ZxJ h d K=K (h▸d):=by subst h;rfl
def Ty.size:Ty->Nat
 | .unit=>0
 | .pair a b=>a.size+b.size
 |_=>1
def Ty.agg:Ty->Bool
 | .unit=>true
 | .pair _ _=>true
 |_=>false
def Ty.flat:Ty->Bool
 | .sl _=>false
 | .ptr _=>false
 | .fn _ _=>false
 | .nptr _=>false
 | .mp _ _=>false
 | .pair a b=>a.flat&&b.flat
 |_=>true
def Vt {α:Type} (R:α->List Value->Prop):List α->List Value->Prop
 |[],xs=>xs=[]
 |d::l,xs=>∃v1 v,xs=v1++v/\R d v1/\Vt R l v
def Zku (agg:Bool) (v:Value):Prop:=(agg=true->∃cs,v=.agg cs)/\(agg=false->v.cells=#[v])
def Zgo {α β:Type} (R:α->List Value->Prop) (Q:β->List Value->Prop) (k v:Bool):List (α×β)->List MapEntry->Prop
 |[],s=>s=[]
 |d::l,s=>∃e r,s=e::r/\Zku k e.key/\R d.1 e.key.cells.toList/\Zku v e.val/\Q d.2 e.val.cells.toList/\Zgo R Q k v l r
def rep (S:Nat->Prop) (w:World):(t:Ty)->t.den->List Value->Prop
 | .int k,n,vs=>vs=[.int k n]
 | .bool,b,vs=>vs=[.bool b]
 | .str,s,vs=>vs=[.string ⟨s.toArray⟩]
 | .sl t,l,vs=>∃a c,vs=[.slice a l.length c]/\l.length<=c/\(a=none->c=0)/\
   (l=[]\/∃p xs,a=some p/\p.spot=none/\S p.block/\(∀j u,xs[j]?=some u->w.cell? (p.add j)=some u)/\Vt (rep S w t) l xs)
 | .unit,_,vs=>vs=[]
 | .pair a b,d,vs=>∃v1 V,vs=v1++V/\rep S w a d.1 v1/\rep S w b d.2 V
 | .ptr t,d,vs=>∃p xs,vs=[.pointer (some p)]/\p.spot=none/\S p.block/\(∀j u,xs[j]?=some u->w.cell? (p.add j)=some u)/\rep S w t d xs
 | .fn f t,d,vs=>∃xs,vs=[.func (.func f) #[] xs.toArray]/\rep S w t d xs
 | .nptr t,d,vs=>(d=none/\vs=[.pointer none])\/∃x p xs,d=some x/\vs=[.pointer (some p)]/\p.spot=none/\S p.block/\(∀j u,xs[j]?=some u->w.cell? (p.add j)=some u)/\rep S w t x xs
 | .mp k v,d,vs=>(d=[]/\vs=[.map none])\/∃b e C,vs=[.map (some b)]/\S b/\w.heap[b]?=some (.map e C)/\Zgo (rep S w k) (rep S w v) k.agg v.agg d e.toList
theorem J8 {α:Type} {R R':α->List Value->Prop} (h:∀d vs,R d vs->R' d vs):∀l xs,Vt R l xs->Vt R' l xs
 |[],_,e=>e
 |_::l,_,⟨v1,v,e,r,s⟩=>⟨v1,v,e,h _ _ r,J8 h l _ s⟩
theorem ZdA {α β:Type} {R R':α->List Value->Prop} {Q Q':β->List Value->Prop} {k v:Bool} (h:∀d vs,R d vs->R' d vs) (H:∀d vs,Q d vs->Q' d vs):∀l s,Zgo R Q k v l s->Zgo R' Q' k v l s
 |[],_,e=>e
 |_::l,_,⟨e,r,E,f,a,F,b,c⟩=>⟨e,r,E,f,h _ _ a,F,H _ _ b,ZdA h H l _ c⟩
theorem YL {S S':Nat->Prop} {w w':World} (s:∀b,S b->S' b) (c:∀b,S b->w'.heap[b]?=w.heap[b]?) :
  ∀(t:Ty) (d:t.den) (vs:List Value),rep S w t d vs->rep S' w' t d vs
 | .int _,_,_,h=>h
 | .bool,_,_,h=>h
 | .str,_,_,h=>h
 | .unit,_,_,h=>h
 | .pair a b,_,_,⟨v1,V,e,n,f⟩=>⟨v1,V,e,YL s c a _ _ n,YL s c b _ _ f⟩
 | .ptr t,_,_,⟨p,xs,e,g,H,l,F⟩=>⟨p,xs,e,g,s _ H,λj u i=>by
     have f:(p.add j).block=p.block:=by unfold Addr.add;split<;>rfl
     rw[World.cell?_of_block (w:=w) (by rw[f];exact c _ H)];exact l j u i,YL s c t _ _ F⟩
 | .fn _ t,_,_,⟨xs,e,F⟩=>⟨xs,e,YL s c t _ _ F⟩
 | .nptr t,_,_,.inl h=>.inl h
 | .nptr t,_,_,.inr ⟨x,p,xs,E,e,g,H,l,F⟩=>.inr ⟨x,p,xs,E,e,g,s _ H,λj u i=>by
     have f:(p.add j).block=p.block:=by unfold Addr.add;split<;>rfl
     rw[World.cell?_of_block (w:=w) (by rw[f];exact c _ H)];exact l j u i,YL s c t _ _ F⟩
 | .mp k v,_,_,.inl h=>.inl h
 | .mp k v,_,_,.inr ⟨b,o,m,e,f,r,h⟩=>.inr ⟨b,o,m,e,s _ f,by rw[c _ f];exact r,ZdA (λd vs=>YL s c k d vs) (λd vs=>YL s c v d vs) _ _ h⟩
 | .sl t,_,_,⟨a,C,e,q,y,h⟩=>⟨a,C,e,q,y,by
   rcases h with h|⟨p,xs,n,g,H,l,F⟩
   ·exact .inl h
   ·exact .inr ⟨p,xs,n,g,s _ H,λj u i=>by
     have f:(p.add j).block=p.block:=by unfold Addr.add;split<;>rfl
     rw[World.cell?_of_block (w:=w) (by rw[f];exact c _ H)];exact l j u i,
     J8 (λd vs=>YL s c t d vs) _ _ F⟩⟩
theorem Zlm {S S':Nat->Prop} {w w':World}:∀(t:Ty),t.flat=true->∀(d:t.den) (vs:List Value),rep S w t d vs->rep S' w' t d vs
 | .int _,_,_,_,h=>h
 | .bool,_,_,_,h=>h
 | .str,_,_,_,h=>h
 | .unit,_,_,_,h=>h
 | .pair a b,f,_,_,⟨v1,v,e,n,H⟩=>by
   simp only[Ty.flat,Ur]at f;exact⟨v1,v,e,Zlm a f.1 _ _ n,Zlm b f.2 _ _ H⟩
 | .sl _,f,_,_,_=>by simp[Ty.flat]at f
 | .ptr _,f,_,_,_=>by simp[Ty.flat]at f
 | .fn _ _,f,_,_,_=>by simp[Ty.flat]at f
 | .nptr _,f,_,_,_=>by simp[Ty.flat]at f
 | .mp _ _,f,_,_,_=>by simp[Ty.flat]at f
theorem QD {S:Nat->Prop} {w:World}:∀(t:Ty) (d:t.den) (vs:List Value),rep S w t d vs->vs.length=t.size
 | .int _,_,_,h=>by cases h;rfl
 | .bool,_,_,h=>by cases h;rfl
 | .str,_,_,h=>by cases h;rfl
 | .unit,_,_,h=>by cases h;rfl
 | .pair a b,_,_,⟨v1,v,e,n,g⟩=>by
   have H:=QD a _ _ n;have f:=QD b _ _ g;subst e;simp[Ty.size,H,f]
 | .sl _,_,_,⟨a,c,e,_⟩=>by subst e;rfl
 | .ptr _,_,_,⟨_,_,e,_⟩=>by subst e;rfl
 | .fn _ _,_,_,⟨_,e,_⟩=>by subst e;rfl
 | .nptr _,_,_,.inl ⟨_,e⟩=>by subst e;rfl
 | .nptr _,_,_,.inr ⟨_,_,_,_,e,_⟩=>by subst e;rfl
 | .mp _ _,_,_,.inl ⟨_,e⟩=>by subst e;rfl
 | .mp _ _,_,_,.inr ⟨_,_,_,e,_⟩=>by subst e;rfl
theorem Zm8 {α:Type} {R:α->List Value->Prop} {n:Nat} (f:∀d vs,R d vs->vs.length=n):∀l xs,Vt R l xs->xs.length=l.length*n
 |[],xs,e=>by cases e;simp
 |d::l,xs,⟨v1,v,e,r,s⟩=>by
   subst e;have h:=f _ _ r;have H:=Zm8 f l _ s;simp[h,H,Kc,Nat.add_comm]
theorem Zj3 {α:Type} {R:α->List Value->Prop}:∀l l' xs x,Vt R l xs->Vt R l' x->Vt R (l++l') (xs++x)
 |[],_,_,_,e,h=>by cases e;exact h
 |d::l,l',_,x,⟨v1,v,e,r,s⟩,h=>⟨v1,v++x,by subst e;simp,r,Zj3 l l' v x s h⟩
theorem Zjn {α:Type} {R:α->List Value->Prop} {n:Nat} (f:∀d vs,R d vs->vs.length=n):∀l xs,Vt R l xs->∀i d,l[i]?=some d->
  ∃vs,R d vs/\∀j u,vs[j]?=some u->xs[i*n+j]?=some u
 |[],_,_,i,d,h=>by simp at h
 |d0::l,xs,⟨v1,v,e,r,s⟩,0,d,h=>by
   simp at h;subst h;subst e;refine⟨v1,r,λj u a=>?_⟩;have b:j<v1.length:=(Ua.1 a).1;simp[Ut b,a]
 |d0::l,xs,⟨v1,v,e,r,s⟩,i+1,d,h=>by
   simp at h;subst e;obtain⟨vs,F,x⟩:=Zjn f l v s i d h;refine⟨vs,F,λj u a=>?_⟩;have H:=f _ _ r;rw[UE (by rw[H,Kc];omega),H];rw[show(i+1)*n+j-n=i*n+j by rw[Kc];omega];exact x j u a
theorem Zmd {α:Type} {R:α->List Value->Prop} {n:Nat} (f:∀d vs,R d vs->vs.length=n):∀l xs,Vt R l xs->∀i,
  Vt R (l.drop i) (xs.drop (i*n))
 |[],_,e,i=>by cases e;simp[Vt]
 |d0::l,xs,h,0=>by simpa using h
 |d0::l,xs,⟨v1,v,e,r,s⟩,i+1=>by
   subst e;have H:=f _ _ r;have a:=Zmd f l v s i;rw[List.drop_succ_cons,show(i+1)*n=v1.length+i*n by rw[H,Kc];omega,<-List.drop_drop,KV];exact a
theorem Zme {α:Type} {R:α->List Value->Prop} {n:Nat} (f:∀d vs,R d vs->vs.length=n):∀l xs,Vt R l xs->∀i,
  Vt R (l.take i) (xs.take (i*n))
 |[],_,e,i=>by cases e;simp[Vt]
 |d0::l,xs,h,0=>by simp[Vt]
 |d0::l,xs,⟨v1,v,e,r,s⟩,i+1=>by
   subst e;have H:=f _ _ r;have a:=Zme f l v s i;rw[List.take_succ_cons,show(i+1)*n=v1.length+i*n by rw[H,Kc];omega,List.take_append];exact⟨v1,_,by simp[KC],r,a⟩
theorem ZrS {α:Type} {R:α->List Value->Prop} {n:Nat} (f:∀d vs,R d vs->vs.length=n):∀l xs,Vt R l xs->∀i d vs,i<l.length->R d vs->
  Vt R (l.set i d) (xs.take (i*n)++vs++xs.drop (i*n+n))
 |[],_,_,i,_,_,h,_=>by simp at h
 |d0::l,xs,⟨v1,v,e,r,s⟩,0,d,vs,_,F=>by
   subst e;have H:=f _ _ r;refine⟨vs,v,by simp[List.drop_append,H],F,s⟩
 |d0::l,xs,⟨v1,v,e,r,s⟩,i+1,d,vs,b,F=>by
   subst e;have H:=f _ _ r;have a:=ZrS f l v s i d vs (by simpa using b) F;refine⟨v1,_,?_,r,a⟩;rw[show(i+1)*n=v1.length+i*n by rw[H,Kc];omega,show v1.length+i*n+n=v1.length+(i*n+n) by omega,List.take_append,List.drop_append];simp[KC]
inductive SV
 |bot
 |int (k:IntKind) (n:Int)
 |bool (b:Bool)
 |blit (b:Bool)
 |str (s:List UInt8)
 |sl (t:Ty) (d:List t.den)
 |nsl
 |ptr (id off:Nat)
 |own (id:Nat)
 |oep (id:Nat) (sz:Nat) (i:Int) (off:Nat)
 |fptr (cells:List SV)
 |agg (cells:List SV)
 |tup (cells:List SV)
 |fn (f:FuncId) (caps:List SV)
 |nilp
 |nptr (t:Ty) (d:Option t.den)
 |mown (id:Nat)
 |mp (k v:Ty) (d:List (k.den×v.den))
structure Env where
 S:Nat->Prop
 w:World
 ids:List Value
mutual
def den (E:Env):SV->Value->Prop
 | .bot,_=>True
 | .int k n,v=>v=.int k n
 | .bool b,v=>v=.bool b
 | .blit b,v=>v=.bool b
 | .str s,v=>v=.string ⟨s.toArray⟩
 | .sl t d,v=>rep E.S E.w (.sl t) d [v]
 | .nsl,v=>v=.slice none 0 0
 | .ptr I o,v=>∃b,E.ids[I]?=some (.pointer (some ⟨b,0,none⟩))/\v=.pointer (some ⟨b,o,none⟩)
 | .own I,v=>E.ids[I]?=some v/\∃a n c,v=.slice a n c
 | .oep I z i o,v=>∃b B n c,E.ids[I]?=some (.slice (some ⟨b,B,none⟩) n c)/\v=.pointer (some ⟨b,B+(i.toNat*z+o),none⟩)
 | .fptr cs,v=>∃p vs,v=.pointer (some p)/\p.spot=none/\E.S p.block/\(∀j u,vs[j]?=some u->E.w.cell? (p.add j)=some u)/\Yu E cs vs
 | .agg cs,v=>∃vs,v=.agg vs.toArray/\Yu E cs vs
 | .tup cs,v=>∃vs,v=.tuple vs.toArray/\Yu E cs vs
 | .fn f cs,v=>∃vs,v=.func (.func f) #[] vs.toArray/\Yu E cs vs
 | .nilp,v=>v=.pointer none
 | .nptr t d,v=>rep E.S E.w (.nptr t) d [v]
 | .mown I,v=>E.ids[I]?=some v/\∃b,v=.map (some b)
 | .mp k e d,v=>rep E.S E.w (.mp k e) d [v]
def Yu (E:Env):List SV->List Value->Prop
 |[],[]=>True
 |c::cs,v::vs=>den E c v/\Yu E cs vs
 |_,_=>False
end
structure Env.le (E E':Env):Prop where
 S:∀b,E.S b->E'.S b
 w:∀b,E.S b->E'.w.heap[b]?=E.w.heap[b]?
 ids:∀(i:Nat) (v:Value),E.ids[i]?=some v->E'.ids[i]?=some v
theorem Env.le.refl (E:Env):E.le E:=⟨λ_ h=>h,λ_ _=>rfl,λ_ _ h=>h⟩
theorem Env.le.trans {A B C:Env} (h:A.le B) (k:B.le C):A.le C :=
 ⟨λb H=>k.S b (h.S b H),λb H=>(k.w b (h.S b H)).trans (h.w b H),λi v a=>k.ids i v (h.ids i v a)⟩
variable (p:Addr) (j:Nat)
theorem add_block:(p.add j).block=p.block:=by unfold Addr.add;split<;>rfl
variable (i:Nat)
theorem add_add (j:Nat) (g:p.spot=none):(p.add i).add j=p.add (i+j):=by
 unfold Addr.add;by_cases d:i=0
 ·simp[d]
 ·by_cases f:j=0
  ·simp[d,f]
  ·have:¬(i+j=0):=by omega
   simp[d,f,Nat.add_assoc]
theorem Zr6 (g:p.spot=none):(p.add i).spot=none:=by unfold Addr.add;split<;>simp[g]
theorem add_eq (b o j:Nat):(⟨b,o,none⟩:Addr).add j=⟨b,o+j,none⟩:=by unfold Addr.add;split<;>simp_all
mutual
theorem ZiC {E E':Env} (h:E.le E'):∀(s:SV) (v:Value),den E s v->den E' s v
 | .bot,_,_=>trivial
 | .int _ _,_,e=>e
 | .bool _,_,e=>e
 | .blit _,_,e=>e
 | .str _,_,e=>e
 | .sl t d,v,e=>YL h.S h.w (.sl t) d [v] e
 | .nsl,_,e=>e
 | .ptr _ _,_,⟨b,a,i⟩=>⟨b,h.ids _ _ a,i⟩
 | .own _,_,⟨a,i⟩=>⟨h.ids _ _ a,i⟩
 | .oep _ _ _ _,_,⟨b,B,n,c,a,i⟩=>⟨b,B,n,c,h.ids _ _ a,i⟩
 | .fptr cs,_,⟨p,vs,a,i,f,g,l⟩=>⟨p,vs,a,i,h.S _ f,λj u H=>by
   rw[World.cell?_of_block (w:=E.w) (by rw[add_block];exact h.w _ f)];exact g j u H,ZX h cs vs l⟩
 | .agg cs,_,⟨vs,a,i⟩=>⟨vs,a,ZX h cs vs i⟩
 | .tup cs,_,⟨vs,a,i⟩=>⟨vs,a,ZX h cs vs i⟩
 | .fn _ cs,_,⟨vs,a,i⟩=>⟨vs,a,ZX h cs vs i⟩
 | .nilp,_,e=>e
 | .nptr t d,v,e=>YL h.S h.w (.nptr t) d [v] e
 | .mown _,_,⟨a,i⟩=>⟨h.ids _ _ a,i⟩
 | .mp k u d,v,e=>YL h.S h.w (.mp k u) d [v] e
theorem ZX {E E':Env} (h:E.le E'):∀(cs:List SV) (vs:List Value),Yu E cs vs->Yu E' cs vs
 |[],[],_=>trivial
 |c::cs,v::vs,⟨a,i⟩=>⟨ZiC h c v a,ZX h cs vs i⟩
 |[],_::_,e=>e
 |_::_,[],e=>e
end
theorem Xo {E:Env}:∀(cs:List SV) (vs:List Value),Yu E cs vs->cs.length=vs.length
 |[],[],_=>rfl
 |c::cs,v::vs,h=>by simp only[Yu]at h;simp[Xo cs vs h.2]
 |[],_::_,h=>by simp[Yu]at h
 |_::_,[],h=>by simp[Yu]at h
theorem ZgR {E:Env}:∀(cs:List SV) (vs:List Value),Yu E cs vs->∀i c v,den E c v->Yu E (cs.set i c) (vs.set i v)
 |[],[],h,i,c,v,_=>by simpa using h
 |c0::cs,v0::vs,h,0,c,v,q=>by simp only[Yu]at h;exact⟨q,h.2⟩
 |c0::cs,v0::vs,h,i+1,c,v,q=>by simp only[Yu]at h;exact⟨h.1,ZgR cs vs h.2 i c v q⟩
 |[],_::_,h,_,_,_,_=>by simp[Yu]at h
 |_::_,[],h,_,_,_,_=>by simp[Yu]at h
theorem Zdz {E:Env}:∀(cs:List SV) (vs:List Value),Yu E cs vs->∀C V,Yu E C V->Yu E (cs++C) (vs++V)
 |[],[],_,_,_,H=>H
 |c::cs,v::vs,h,C,V,H=>by simp only[Yu]at h;exact⟨h.1,Zdz cs vs h.2 C V H⟩
 |[],_::_,h,_,_,_=>by simp[Yu]at h
 |_::_,[],h,_,_,_=>by simp[Yu]at h
theorem Zbg {E:Env}:∀(cs:List SV) (vs:List Value),Yu E cs vs->∀i,Yu E (cs.drop i) (vs.drop i)
 |cs,vs,h,0=>by simpa using h
 |[],[],_,i+1=>by simp[Yu]
 |c::cs,v::vs,h,i+1=>by simp only[Yu]at h;simpa using Zbg cs vs h.2 i
 |[],_::_,h,_+1=>by simp[Yu]at h
 |_::_,[],h,_+1=>by simp[Yu]at h
theorem Zh8 {E:Env}:∀(cs:List SV) (vs:List Value),Yu E cs vs->∀i,Yu E (cs.take i) (vs.take i)
 |cs,vs,h,0=>by simp[Yu]
 |[],[],_,i+1=>by simp[Yu]
 |c::cs,v::vs,h,i+1=>by simp only[Yu]at h;simp only[List.take_succ_cons,Yu];exact⟨h.1,Zh8 cs vs h.2 i⟩
 |[],_::_,h,_+1=>by simp[Yu]at h
 |_::_,[],h,_+1=>by simp[Yu]at h
def Zhr:(t:Ty)->t.den->List SV
 | .int k,n=>[.int k n]
 | .bool,b=>[.bool b]
 | .str,s=>[.str s]
 | .sl t,l=>[.sl t l]
 | .unit,_=>[]
 | .pair a b,d=>Zhr a d.1++Zhr b d.2
 | .ptr t,d=>[.fptr (Zhr t d)]
 | .fn f t,d=>[.fn f (Zhr t d)]
 | .nptr t,d=>[.nptr t d]
 | .mp k v,d=>[.mp k v d]
theorem Qg {E:Env}:∀(t:Ty) (d:t.den) (vs:List Value),rep E.S E.w t d vs->Yu E (Zhr t d) vs
 | .int _,_,_,h=>by cases h;exact⟨rfl,trivial⟩
 | .bool,_,_,h=>by cases h;exact⟨rfl,trivial⟩
 | .str,_,_,h=>by cases h;exact⟨rfl,trivial⟩
 | .unit,_,_,h=>by cases h;exact trivial
 | .sl t,l,vs,h=>by
   have H:=h;obtain⟨a,c,e,_⟩:=h;subst e;exact⟨H,trivial⟩
 | .pair a b,_,_,⟨v1,V,e,n,g⟩=>by
   subst e;exact Zdz _ _ (Qg a _ _ n) _ _ (Qg b _ _ g)
 | .ptr t,_,_,⟨p,xs,e,i,s,x,F⟩=>by
   subst e;exact⟨⟨p,xs,rfl,i,s,x,Qg t _ _ F⟩,trivial⟩
 | .fn f t,_,_,⟨xs,e,F⟩=>by
   subst e;exact⟨⟨xs,rfl,Qg t _ _ F⟩,trivial⟩
 | .nptr t,d,vs,h=>by
   have H:=h;rcases h with⟨_,e⟩|⟨_,_,_,_,e,_⟩<;>subst e<;>exact⟨H,trivial⟩
 | .mp k v,d,vs,h=>by
   have H:=h;rcases h with⟨_,e⟩|⟨_,_,_,e,_⟩<;>subst e<;>exact⟨H,trivial⟩
inductive Dp
 |flat (t:Ty)
 |ol (et:TypeId) (e:Dp)
 |pair (a b:Dp)
 |mp (k v:Ty)
 deriving DecidableEq
@[reducible] def Dp.ty:Dp->Ty
 | .flat t=>t
 | .ol _ e=>.sl e.ty
 | .pair a b=>.pair a.ty b.ty
 | .mp k v=>.mp k v
def Y4:Value->Option Nat
 | .pointer (some a)=>some a.block
 | .slice (some a) _ _=>some a.block
 | .map (some b)=>some b
 |_=>none
def Zcp {α:Type} (R:α->List Value->List Nat->Prop):List α->List Value->List Nat->Prop
 |[],xs,f=>xs=[]/\f=[]
 |d::l,xs,f=>∃v1 v F a,xs=v1++v/\f=F++a/\R d v1 F/\Zcp R l v a
def Zi4 (S:Nat->Prop) (w:World):(e:Dp)->e.ty.den->List Value->List Nat->Prop
 | .flat t,d,vs,f=>f=[]/\rep S w t d vs
 | .ol g e,l,vs,f=>∃v xs s,vs=[v]/\w.Zaf 0 g e.ty.size v l.length xs/\Zcp (Zi4 S w e) l xs s/\f=(Y4 v).toList++s
 | .pair a b,d,vs,f=>∃v1 V F c,vs=v1++V/\f=F++c/\Zi4 S w a d.1 v1 F/\Zi4 S w b d.2 V c
 | .mp k v,d,vs,f=>∃b E C,vs=[.map (some b)]/\f=[b]/\w.heap[b]?=some (.map E C)/\Zgo (rep S w k) (rep S w v) k.agg v.agg d E.toList
theorem QE {α:Type} {R R':α->List Value->List Nat->Prop}:∀(l:List α) (xs:List Value) (p:List Nat),(∀d vs f,(∀g∈f,g∈p)->R d vs f->R' d vs f)->Zcp R l xs p->Zcp R' l xs p
 |[],_,_,_,e=>e
 | _::l,_,p,h,⟨v1,v,F,b,e,E,r,s⟩=>⟨v1,v,F,b,e,E,h _ _ _ (λg a=>by rw[E];simp[a]) r,
   QE l _ _ (λd vs f H=>h d vs f (λg a=>by rw[E];simp[H g a])) s⟩
variable {w w':World} {base:Nat} {e:TypeId} {n:Nat} {v:Value} {xs:List Value}
theorem Zih {z:Nat} (h:w.Zaf base e z v n xs) (b:∀g,Y4 v=some g->w'.heap[g]?=w.heap[g]?):w'.Zaf base e z v n xs:=by
 refine⟨h.1,?_⟩;rcases h.2 with f|⟨g,c,cur,o,rfl,a,H,r⟩
 ·exact .inl f
 ·exact .inr ⟨g,c,cur,o,rfl,a,by rw[b g rfl];exact H,r⟩
theorem Y5 {S S':Nat->Prop} {w w':World} (s:∀b,S b->S' b) (j:∀b,S b->w'.heap[b]?=w.heap[b]?) :
  ∀(e:Dp) (d:e.ty.den) (vs:List Value) (p:List Nat),(∀g∈p,w'.heap[g]?=w.heap[g]?)->Zi4 S w e d vs p->Zi4 S' w' e d vs p
 | .flat t,_,_,_,_,⟨m,n⟩=>⟨m,YL s j t _ _ n⟩
 | .ol z e,_,_,p,H,⟨v,xs,F,E,x,y,i⟩=>⟨v,xs,F,E,Zih x (λg c=>H g (by rw[i];simp[c])),
   QE _ _ _ (λd vs f l=>Y5 s j e d vs f (λg c=>H g (by rw[i];simp[l g c]))) y,i⟩
 | .mp k v,_,_,p,H,⟨b,o,C,E,i,u,h⟩=>⟨b,o,C,E,i,by rw[H b (by rw[i];simp)];exact u,ZdA (λd vs=>YL s j k d vs) (λd vs=>YL s j v d vs) _ _ h⟩
 | .pair a b,_,_,p,H,⟨v1,V,q,r,E,i,m,n⟩=>⟨v1,V,q,r,E,i,Y5 s j a _ _ _ (λg c=>H g (by rw[i];simp[c])) m,Y5 s j b _ _ _ (λg c=>H g (by rw[i];simp[c])) n⟩
theorem ZdL {S:Nat->Prop} {w:World}:∀(e:Dp) (d:e.ty.den) (vs:List Value) (f:List Nat),Zi4 S w e d vs f->vs.length=e.ty.size
 | .flat t,_,_,_,⟨_,h⟩=>QD t _ _ h
 | .ol l e,_,_,_,⟨v,xs,s,E,_⟩=>by subst E;rfl
 | .mp _ _,_,_,_,⟨b,k,C,E,_⟩=>by subst E;rfl
 | .pair a b,_,_,_,⟨v1,V,F,m,E,j,H,c⟩=>by
   have g:=ZdL a _ _ _ H;have i:=ZdL b _ _ _ c;subst E;simp[Dp.ty,Ty.size,g,i]
theorem Zj2 {α:Type} {R:α->List Value->List Nat->Prop} {R':α->List Value->Prop}:∀(l:List α) (xs:List Value) (p:List Nat),(∀d vs f,(∀g∈f,g∈p)->R d vs f->R' d vs)->Zcp R l xs p->Vt R' l xs
 |[],_,_,_,e=>e.1
 | _::l,_,p,h,⟨v1,v,F,b,e,E,r,s⟩=>⟨v1,v,e,h _ _ _ (λg a=>by rw[E];simp[a]) r,
   Zj2 l _ _ (λd vs f H=>h d vs f (λg a=>by rw[E];simp[H g a])) s⟩
variable {S:Nat->Prop} {t:Ty} {d:List t.den}
theorem Zup {E:TypeId} (f:w.Zaf 0 E t.size v d.length xs) (H:Vt (rep S w t) d xs) (b:∀g,Y4 v=some g->S g):rep S w (.sl t) d [v]:=by
 rcases f.2 with⟨rfl,h⟩|⟨g,c,cur,o,rfl,_,r,q,_⟩
 ·exact⟨none,0,by rw[h],by omega,λ_=>rfl,.inl (UI h)⟩
 ·exact⟨_,c,rfl,q,λe=>by simp at e,.inr ⟨_,xs,rfl,rfl,b g rfl,f.ZiY rfl,H⟩⟩
theorem ZgD {S S':Nat->Prop} {w:World} (s:∀b,S b->S' b):∀(e:Dp) (d:e.ty.den) (vs:List Value) (p:List Nat),(∀g∈p,S' g)->Zi4 S w e d vs p->rep S' w e.ty d vs
 | .flat t,_,_,_,_,⟨_,h⟩=>YL s (λ_ _=>rfl) t _ _ h
 | .ol q e,_,_,p,H,⟨v,xs,F,E,x,o,i⟩=>by
   subst E;exact Zup x (Zj2 _ _ _ (λd vs f l h=>ZgD s e d vs f (λg c=>H g (by rw[i];simp[l g c])) h) o) (λg c=>H g (by rw[i];simp[c]))
 | .mp k v,_,_,p,H,⟨b,j,C,E,i,r,h⟩=>.inr ⟨b,j,C,E,H b (by rw[i];simp),r,ZdA (λd vs=>YL s (λ_ _=>rfl) k d vs) (λd vs=>YL s (λ_ _=>rfl) v d vs) _ _ h⟩
 | .pair a b,_,_,p,H,⟨v1,V,u,y,E,i,m,n⟩=>⟨v1,V,E,ZgD s a _ _ _ (λg c=>H g (by rw[i];simp[c])) m,ZgD s b _ _ _ (λg c=>H g (by rw[i];simp[c])) n⟩
theorem ZiN {α:Type} {R:α->List Value->List Nat->Prop}:∀l l' xs x p f,Zcp R l xs p->Zcp R l' x f->Zcp R (l++l') (xs++x) (p++f)
 |[],_,_,_,_,_,⟨E,i⟩,h=>by subst E;subst i;exact h
 |d::l,l',_,x,_,f,⟨v1,v,b,F,e,a,r,s⟩,h=>⟨v1,v++x,b,F++f,by subst e;simp,by subst a;simp,r,ZiN l l' v x F f s h⟩
def ZGZ (S:Nat->Prop) (w:World) (g:TypeId) (e:Dp) (d:List e.ty.den) (n:Int) (v:Value) (p:List Nat):Prop :=
 ∃xs x X f,w.Zaf 0 g e.ty.size v d.length xs/\0<=n/\n<=(d.length:Int)/\xs=x++X/\x.length=n.toNat*e.ty.size/\Zcp (Zi4 S w e) (d.take n.toNat) x f/\Vt (rep S w e.ty) (d.drop n.toNat) X/\p=(Y4 v).toList++f
variable {S':Nat->Prop}
theorem Zqp (s:∀b,S b->S' b) (k:∀b,S b->w'.heap[b]?=w.heap[b]?) {t:TypeId} {e:Dp} {d:List e.ty.den} {n:Int} {p:List Nat} (j:∀g∈p,w'.heap[g]?=w.heap[g]?) (h:ZGZ S w t e d n v p):ZGZ S' w' t e d n v p:=by
 obtain⟨xs,X,r,F,x,m,o,ex,l,H,c,i⟩:=h;exact⟨xs,X,r,F,Zih x (λg a=>j g (by rw[i];simp[a])),m,o,ex,l,QE _ _ _ (λd vs f q=>Y5 s k e d vs f (λg a=>j g (by rw[i];simp[q g a]))) H,J8 (λd vs=>YL s k e.ty d vs) _ _ c,i⟩
theorem Zqr {α:Type} {R:α->List Value->List Nat->Prop} {n:Nat} (H:∀d vs f,R d vs f->vs.length=n):∀l xs p,Zcp R l xs p->∀i x,l[i]?=some x->
  ∃X v b F c a,xs=X++v++b/\p=F++c++a/\X.length=i*n/\Zcp R (l.take i) X F/\R x v c/\Zcp R (l.drop (i+1)) b a
 |[],_,_,_,i,x,h=>by simp at h
 |d::l,_,_,⟨v1,V,F,a,e,E,r,s⟩,0,x,h=>by
   simp at h;subst h;exact⟨[],v1,V,[],F,a,by simp[e],by simp[E],by simp,⟨rfl,rfl⟩,r,by simpa using s⟩
 |d::l,_,_,⟨v1,V,F,a,e,E,r,s⟩,i+1,x,h=>by
   obtain⟨X,v,b,g,o,G,j,k,m,q,t,u⟩:=Zqr H l V a s i x (by simpa using h);have w:=H _ _ _ r;refine⟨v1++X,v,b,F++g,o,G,by rw[e,j];simp,by rw[E,k];simp,by rw[Ug,m,w,Kc];omega,⟨v1,X,F,g,rfl,rfl,r,q⟩,t,by simpa using u⟩
variable {i:Nat} {f F:List Nat}
theorem Zyk {α:Type} {R:α->List Value->List Nat->Prop} {l:List α} {x:α} {a v X:List Value} {c:List Nat} (H:i<l.length) (d:Zcp R (l.take i) a f) (b:R x v c)
  (h:Zcp R (l.drop (i+1)) X F):Zcp R (l.set i x) (a++v++X) (f++c++F):=by
 rw[List.set_eq_take_append_cons_drop,Uc H,Uj,Uj];exact ZiN _ _ _ _ _ _ d ⟨v,X,c,F,rfl,rfl,b,h⟩
def ZtA (w w':World):Prop:=∀p u,w.cell? p=some u->w'.cell? p=some u
theorem ZtA.refl (w:World):ZtA w w:=λ_ _ h=>h
theorem ZtA.trans {a b c:World} (h:ZtA a b) (H:ZtA b c):ZtA a c:=λp u d=>H p u (h p u d)
def Grow (w w':World):Prop:=∀b,b<w.heap.size->w'.heap[b]?=w.heap[b]?
theorem Grow.refl (w:World):Grow w w:=λ_ _=>rfl
theorem Grow.ZNZ (h:Grow w w'):ZtA w w':=by
 intro p u H;rw[World.cell?_of_block (w:=w) (w':=w') (a:=p) ?_]
 ·exact H
 ·refine h _ ?_
  refine Nat.lt_of_not_le λe=>?_;unfold World.cell? at H;rw[Array.getElem?_eq_none e]at H;simp at H
def ZBR (P:Program) (w:World) (x:Sem Value) (u:Value):Prop:=∀w',ZtA w w'->x.run P w'=.ok u w'
def ZqZ (P:Program) (x:Sem Value) (u:Value):Prop:=∀w',x.run P w'=.ok u w'
theorem ZBR.here {P:Program} {x:Sem Value} {u:Value} (h:ZBR P w x u):x.run P w=.ok u w:=h w (ZtA.refl w)
inductive Entry
 |gone
 |box (cells:List SV)
 |arr (et:TypeId) (t:Ty) (d:List t.den)
 |frz (t:Ty) (d:List t.den)
 |fbx (cells:List SV)
 |darr (et:TypeId) (e:Dp) (d:List e.ty.den) (fp:List Nat)
 |hole (et:TypeId) (e:Dp) (d:List e.ty.den) (i:Int) (cells:List SV) (fp:List Nat)
 |mpe (k v:Ty) (d:List (k.den×v.den))
 |spl (et:TypeId) (e:Dp) (d:List e.ty.den) (n:Int) (fp:List Nat)
 |hsp (et:TypeId) (e:Dp) (d:List e.ty.den) (i:Int) (cells:List SV) (fp:List Nat)
 |frm (k v:Ty) (d:List (k.den×v.den))
def Entry.live:Entry->Bool
 | .box _=>true
 | .arr _ _ _=>true
 | .darr _ _ _ _=>true
 | .hole _ _ _ _ _ _=>true
 | .mpe _ _ _=>true
 | .spl _ _ _ _ _=>true
 | .hsp _ _ _ _ _ _=>true
 |_=>false
def Zi9:Entry->Value->Nat->Prop
 | .darr _ _ _ f,_,g=>g∈f
 | .hole _ _ _ _ _ f,_,g=>g∈f
 | .spl _ _ _ _ f,_,g=>g∈f
 | .hsp _ _ _ _ _ f,_,g=>g∈f
 |_,v,g=>Y4 v=some g
def Zwz (E:Env) (I:Nat):Entry->Prop
 | .gone=>True
 | .box cells=>∃b cs T,E.ids[I]?=some (.pointer (some ⟨b,0,none⟩))/\E.w.heap[b]?=some (.cells cs T (0,0))/\Yu E cells cs.toList
 | .arr g t d=>∃v xs,E.ids[I]?=some v/\E.w.Zaf 0 g t.size v d.length xs/\Vt (rep E.S E.w t) d xs
 | .frz t d=>∃v,E.ids[I]?=some v/\rep E.S E.w (.sl t) d [v]
 | .fbx cells=>∃b cs T,E.ids[I]?=some (.pointer (some ⟨b,0,none⟩))/\E.S b/\E.w.heap[b]?=some (.cells cs T (0,0))/\Yu E cells cs.toList
 | .darr g e d f=>∃v xs s,E.ids[I]?=some v/\E.w.Zaf 0 g e.ty.size v d.length xs/\Zcp (Zi4 E.S E.w e) d xs s/\f=(Y4 v).toList++s/\f.Nodup
 | .hole g e d i cells f=>∃v xs X x a F h,E.ids[I]?=some v/\E.w.Zaf 0 g e.ty.size v d.length xs/\0<=i/\i<(d.length:Int)/\xs=X++x++a/\X.length=i.toNat*e.ty.size/\x.length=e.ty.size/\
   Zcp (Zi4 E.S E.w e) (d.take i.toNat) X F/\Zcp (Zi4 E.S E.w e) (d.drop (i.toNat+1)) a h/\Yu E cells x/\f=(Y4 v).toList++F++h/\f.Nodup
 | .spl g e d n f=>∃v,E.ids[I]?=some v/\ZGZ E.S E.w g e d n v f/\f.Nodup
 | .hsp g e d i cells f=>∃v xs X x a F,E.ids[I]?=some v/\E.w.Zaf 0 g e.ty.size v d.length xs/\0<=i/\i<(d.length:Int)/\xs=X++x++a/\X.length=i.toNat*e.ty.size/\x.length=e.ty.size/\
   Zcp (Zi4 E.S E.w e) (d.take i.toNat) X F/\Vt (rep E.S E.w e.ty) (d.drop (i.toNat+1)) a/\Yu E cells x/\f=(Y4 v).toList++F/\f.Nodup
 | .mpe k v d=>∃b c C,E.ids[I]?=some (.map (some b))/\E.w.heap[b]?=some (.map c C)/\Zgo (rep E.S E.w k) (rep E.S E.w v) k.agg v.agg d c.toList
 | .frm k v d=>∃u,E.ids[I]?=some u/\rep E.S E.w (.mp k v) d [u]
structure Base where
 w:World
 S:Nat->Prop
 io:Nat->Prop
 pin:List Value
structure Keeps (B:Base) (w:World):Prop where
 os:w.os=B.w.os
 tape:w.tape=B.w.tape
 output:w.output=B.w.output
 size:B.w.heap.size<=w.heap.size
 block:∀b,b<B.w.heap.size->¬B.io b->w.heap[b]?=B.w.heap[b]?
structure Inv (B:Base) (E:Env) (H:List Entry):Prop where
 keeps:Keeps B E.w
 Slt:∀b,E.S b->b<E.w.heap.size
 Sold:∀b,E.S b->b<B.w.heap.size->B.S b\/B.io b
 len:E.ids.length=H.length
 pin:∀(i:Nat) (v:Value),B.pin[i]?=some v->E.ids[i]?=some v
 ent:∀(i:Nat) (e:Entry),H[i]?=some e->Zwz E i e
 free:∀(i:Nat) (e:Entry) (v:Value) (g:Nat),H[i]?=some e->e.live=true->E.ids[i]?=some v->Zi9 e v g->¬E.S g/\(B.w.heap.size<=g\/B.io g)/\g<E.w.heap.size
 sep:∀(i j:Nat) (ei ej:Entry) (vi vj:Value) (g:Nat),H[i]?=some ei->H[j]?=some ej->ei.live=true->ej.live=true->
  E.ids[i]?=some vi->E.ids[j]?=some vj->Zi9 ei vi g->Zi9 ej vj g->i=j
theorem Zy0 (v:Value) (g:Nat) (h:v.ownBlock=some g):Y4 v=some g:=by
 cases v with
 |slice a n c=>cases a<;>simp_all[Value.ownBlock,Y4]
 |_=>simp[Value.ownBlock]at h
theorem ZdJ {size:Nat} (h:w.Zaf base e size v n xs):Y4 v=v.ownBlock:=by
 rcases h.2 with⟨rfl,_⟩|⟨g,c,cur,o,rfl,_⟩<;>rfl
variable {E E':Env}
theorem ZfE (h:E.le E') (i:Nat) (e:Entry)
  (x:e.live=true->∀v g,E.ids[i]?=some v->Zi9 e v g->E'.w.heap[g]?=E.w.heap[g]?) (m:Zwz E i e):Zwz E' i e:=by
 cases e with
 |gone=>trivial
 |box cells =>
  obtain⟨b,cs,T,H,j,s⟩:=m;exact⟨b,cs,T,h.ids _ _ H,by rw[x rfl _ b H rfl];exact j,ZX h _ _ s⟩
 |arr G t d =>
  obtain⟨v,xs,H,j,s⟩:=m;refine⟨v,xs,h.ids _ _ H,⟨j.1,?_⟩,J8 (λd vs=>YL h.S h.w t d vs) _ _ s⟩;rcases j.2 with Y|⟨g,I,cur,o,rfl,a,W,r⟩
  ·exact .inl Y
  ·exact .inr ⟨g,I,cur,o,rfl,a,by rw[x rfl _ g H rfl];exact W,r⟩
 |frz t d =>
  obtain⟨v,H,j⟩:=m;exact⟨v,h.ids _ _ H,YL h.S h.w (.sl t) d [v] j⟩
 |fbx cells =>
  obtain⟨b,cs,T,H,j,s,U⟩:=m;exact⟨b,cs,T,h.ids _ _ H,h.S _ j,by rw[h.w b j];exact s,ZX h _ _ U⟩
 |darr G e d F =>
  obtain⟨v,xs,M,H,D,O,l,c⟩:=m;have p:∀g∈F,E'.w.heap[g]?=E.w.heap[g]?:=λg a=>x rfl v g H a;exact⟨v,xs,M,h.ids _ _ H,Zih D (λg a=>p g (by rw[l];simp[a])),QE _ _ _ (λd vs f C=>Y5 h.S h.w e d vs f (λg a=>p g (by rw[l];simp[C g a]))) O,l,c⟩
 |spl G e d n F =>
  obtain⟨v,H,O,c⟩:=m;exact⟨v,h.ids _ _ H,Zqp h.S h.w (λg a=>x rfl v g H a) O,c⟩
 |hsp G e d i cells F =>
  obtain ⟨v,xs,X,V,P,L,H,D,y,z,ex,K,q,A,B,N,l,c⟩:=m;have p:∀ g∈F,E'.w.heap[g]?=E.w.heap[g]?:=λg a=>x rfl v g H a;exact ⟨v,xs,X,V,P,L,h.ids _ _ H,Zih D (λg a=>p g (by rw[l];simp[a])),y,z,ex,K,q,
   QE _ _ _ (λd vs f C=>Y5 h.S h.w e d vs f (λg a=>p g (by rw[l];simp[C g a]))) A,
   J8 (λd vs=>YL h.S h.w e.ty d vs) _ _ B,ZX h _ _ N,l,c⟩
 |mpe k v d =>
  obtain⟨b,Q,J,H,j,s⟩:=m;exact⟨b,Q,J,h.ids _ _ H,by rw[x rfl _ b H rfl];exact j,ZdA (λd vs=>YL h.S h.w k d vs) (λd vs=>YL h.S h.w v d vs) _ _ s⟩
 |frm k v d =>
  obtain⟨u,H,j⟩:=m;exact⟨u,h.ids _ _ H,YL h.S h.w (.mp k v) d [u] j⟩
 |hole G e d i cells F =>
  obtain ⟨v,xs,X,V,P,L,R,H,D,y,z,ex,K,q,A,B,N,l,c⟩:=m;have p:∀ g∈F,E'.w.heap[g]?=E.w.heap[g]?:=λg a=>x rfl v g H a;exact ⟨v,xs,X,V,P,L,R,h.ids _ _ H,Zih D (λg a=>p g (by rw[l];simp[a])),y,z,ex,K,q,
   QE _ _ _ (λd vs f C=>Y5 h.S h.w e d vs f (λg a=>p g (by rw[l];simp[C g a]))) A,
   QE _ _ _ (λd vs f C=>Y5 h.S h.w e d vs f (λg a=>p g (by rw[l];simp[C g a]))) B,ZX h _ _ N,l,c⟩
variable {row:Option Nat}
theorem ZfG (a:E.w.grownBy w' row) (s:∀b,E.S b->b<E.w.heap.size) (F:∀g,row=some g->¬E.S g) :
  E.le ⟨E.S,w',E.ids⟩ :=
 ⟨λ_ h=>h,λb H=>a.block b (s b H) (λe=>F b e.symm H),λ_ _ h=>h⟩
variable {B:Base}
theorem Keeps.grown (h:Keeps B w) (a:w.grownBy w' row) (F:∀g,row=some g->B.w.heap.size<=g\/B.io g):Keeps B w' :=
 ⟨a.os.trans h.os,a.tape.trans h.tape,a.output.trans h.output,Ko h.size a.size,λb H o =>
  (a.block b (UP H h.size) (λe=>by
   rcases F b e.symm with d|d
   ·omega
   ·exact o d)).trans (h.block b H o)⟩
variable {H:List Entry}
theorem Inv.grow (h:Inv B E H) (f:E.w.grownBy w' none):Inv B ⟨E.S,w',E.ids⟩ H:=by
 have j:=ZfG f h.Slt (λg e=>by simp at e);exact
  {keeps:=h.keeps.grown f (λg e=>by simp at e)
   Slt:=λb d=>UP (h.Slt b d) f.size
   Sold:=h.Sold
   len:=h.len
   pin:=h.pin
   ent:=λi e l=>ZfE j i e (λq v g k d=>f.block g (h.free i e v g l q k d).2.2 (by simp)) (h.ent i e l)
   free:=λi e v g l q k d=>let ⟨a,b,c⟩:=h.free i e v g l q k d;⟨a,b,UP c f.size⟩
   sep:=h.sep}
theorem Inv.ZxC (h:Inv B E H) {p:Entry} (t:H[i]?=some p) (D:p.live=true) (r:E.ids[i]?=some v) (n:∀g,row=some g->Zi9 p v g) (C:E.w.grownBy w' row) (A:Entry) (o:A.live=true->∀g,Zi9 A v g->Zi9 p v g) (J:Zwz ⟨E.S,w',E.ids⟩ i A):Inv B ⟨E.S,w',E.ids⟩ (H.set i A):=by
 have L:=ZfG C h.Slt (λg e=>(h.free i p v g t D r (n g e)).1);have K:i<H.length:=(Ua.1 t).1;have O:∀(j:Nat) (e:Entry),(H.set i A)[j]?=some e->(j=i/\e=A)\/(j≠i/\H[j]?=some e):=by
  intro j e q;by_cases F:j=i
  ·subst F;rw[UG K]at q;exact .inl ⟨rfl,by simpa using q.symm⟩
  ·rw[UF (by omega)]at q;exact .inr ⟨F,q⟩
 exact
  {keeps:=h.keeps.grown C (λg e=>(h.free i p v g t D r (n g e)).2.1)
   Slt:=λb R=>UP (h.Slt b R) C.size
   Sold:=h.Sold
   len:=by simp[h.len]
   pin:=h.pin
   ent:=λj e q=>by
    rcases O j e q with⟨rfl,rfl⟩|⟨y,m⟩
    ·exact J
    ·exact ZfE L j e (λf V g l d=>C.block g (h.free j e V g m f l d).2.2 (λQ=>y (h.sep j i e p V v g m t f D l r d (n g Q.symm)))) (h.ent j e m)
   free:=λj e V g q f l d=>by
    rcases O j e q with⟨rfl,rfl⟩|⟨y,m⟩
    ·have:=r.symm.trans l;simp at this;subst this
     obtain⟨a,b,c⟩:=h.free j p v g t D r (o f g d);exact⟨a,b,UP c C.size⟩
    ·obtain⟨a,b,c⟩:=h.free j e V g m f l d
     exact⟨a,b,UP c C.size⟩
   sep:=λj k I G V P g q N f x l z d s=>by
    rcases O j I q with⟨rfl,rfl⟩|⟨y,m⟩
    ·have:=r.symm.trans l;simp at this;subst this
     rcases O k G N with⟨rfl,rfl⟩|⟨M,u⟩
     ·rfl
     ·exact h.sep j k p G v P g t u D x r z (o f g d) s
    ·rcases O k G N with⟨rfl,rfl⟩|⟨M,u⟩
     ·have:=r.symm.trans z;simp at this;subst this
      exact h.sep j k I p V v g m t f D l r d (o x g s)
     ·exact h.sep j k I G V P g m u f x l z d s}
def Entry.thin:Entry->Bool
 | .darr _ _ _ _=>false
 | .hole _ _ _ _ _ _=>false
 | .spl _ _ _ _ _=>false
 | .hsp _ _ _ _ _ _=>false
 |_=>true
variable {e:Entry}
theorem ZmG (h:e.thin=true) (v:Value) (g:Nat):Zi9 e v g<->Y4 v=some g:=by
 cases e<;>first|exact Iff.rfl|cases h
theorem Inv.write (h:Inv B E H) {b:Entry} (l:H[i]?=some b) (q:b.live=true) (c:E.ids[i]?=some v) (a:E.w.grownBy w' (Y4 v)) (e:Entry) (J:Zwz ⟨E.S,w',E.ids⟩ i e) (m:b.thin=true:=by rfl) (d:e.thin=true:=by rfl):Inv B ⟨E.S,w',E.ids⟩ (H.set i e) :=
 h.ZxC l q c (λg a=>(ZmG m v g).2 a) a e (λ_ g a=>(ZmG m v g).2 ((ZmG d v g).1 a)) J
theorem Inv.drop (h:Inv B E H) (i:Nat):Inv B E (H.set i .gone):=by
 have d:∀(j:Nat) (e:Entry),(H.set i .gone)[j]?=some e->e=.gone\/H[j]?=some e:=by
  intro j e b;by_cases F:i=j
  ·subst F
   have t:i<H.length:=by have:=(Ua.1 b).1;simpa using this
   rw[UG t]at b;exact .inl (by simpa using b.symm)
  ·rw[UF F]at b;exact .inr b
 exact
  {keeps:=h.keeps,Slt:=h.Slt,Sold:=h.Sold,len:=by simp[h.len],pin:=h.pin
   ent:=λj e b=>by
    rcases d j e b with rfl|m
    ·trivial
    ·exact h.ent j e m
   free:=λj e v g b q o c=>by
    rcases d j e b with rfl|m
    ·simp[Entry.live]at q
    ·exact h.free j e v g m q o c
   sep:=λj k I G V P g b n f x l z a s=>by
    rcases d j I b with rfl|m
    ·simp[Entry.live]at f
    ·rcases d k G n with rfl|u
     ·simp[Entry.live]at x
     ·exact h.sep j k I G V P g m u f x l z a s}
theorem ZlM (E:Env) (v:Value):E.le ⟨E.S,E.w,E.ids++[v]⟩ :=
 ⟨λ_ h=>h,λ_ _=>rfl,λi u a=>by
  have:i<E.ids.length:=(Ua.1 a).1;simp[Ut this,a]⟩
theorem Inv.push (h:Inv B E H) (v:Value) (e:Entry) (M:Zwz ⟨E.S,E.w,E.ids++[v]⟩ H.length e)
  (C:e.live=true->∀ g,Zi9 e v g->¬E.S g/\(B.w.heap.size<=g\/B.io g)/\g<E.w.heap.size/\
   ∀ (j:Nat) (I:Entry) (V:Value),H[j]?=some I->I.live=true->E.ids[j]?=some V->¬Zi9 I V g) :
  Inv B ⟨E.S,E.w,E.ids++[v]⟩ (H++[e]):=by
 have A:=ZlM E v;have O:∀(j:Nat) (I:Entry),(H++[e])[j]?=some I->(j=H.length/\I=e)\/(j<H.length/\H[j]?=some I):=by
  intro j I d;by_cases t:j<H.length
  ·rw[Ut t]at d;exact .inr ⟨t,d⟩
  ·have L:j<(H++[e]).length:=(Ua.1 d).1
   have:j=H.length:=by simp at L;omega
   subst this;simp at d;exact .inl ⟨rfl,d.symm⟩
 have o:∀(j:Nat) (u:Value),j<H.length->(E.ids++[v])[j]?=some u->E.ids[j]?=some u:=by
  intro j u t y;rwa [Ut (by rw[h.len];exact t)]at y
 have n:∀(u:Value),(E.ids++[v])[H.length]?=some u->u=v:=by
  intro u y;rw[<-h.len]at y;simpa using y.symm
 exact
  {keeps:=h.keeps,Slt:=h.Slt,Sold:=h.Sold,len:=by simp[h.len],pin:=λi u y=>A.ids i u (h.pin i u y)
   ent:=λj I d=>by
    rcases O j I d with⟨rfl,rfl⟩|⟨_,m⟩
    ·exact M
    ·exact ZfE A j I (λ_ _ _ _ _=>rfl) (h.ent j I m)
   free:=λj I V g d J K D=>by
    rcases O j I d with⟨rfl,rfl⟩|⟨t,m⟩
    ·have:=n _ K;subst this
     obtain⟨a,b,c,_⟩:=C J g D;exact⟨a,b,c⟩
    ·exact h.free j I V g m J (o _ _ t K) D
   sep:=λj k I G V P g d F q x r z l s=>by
    rcases O j I d with⟨rfl,rfl⟩|⟨t,m⟩
    ·rcases O k G F with⟨rfl,rfl⟩|⟨f,p⟩
     ·rfl
     ·have:=n _ r;subst this
      exact absurd s ((C q g l).2.2.2 k G P p x (o _ _ f z))
    ·rcases O k G F with⟨rfl,rfl⟩|⟨f,p⟩
     ·have:=n _ z;subst this
      exact absurd l ((C x g s).2.2.2 j I V m q (o _ _ t r))
     ·exact h.sep j k I G V P g m p q x (o _ _ t r) (o _ _ f z) l s}
theorem Inv.alloc (h:Inv B E H) (o:Obj) (v:Value) (e:Entry) (d:Y4 v=some E.w.heap.size)
  (m:Zwz ⟨E.S,E.w.alloc o,E.ids++[v]⟩ H.length e) (r:e.thin=true:=by rfl):Inv B ⟨E.S,E.w.alloc o,E.ids++[v]⟩ (H++[e]):=by
 have a:E.w.grownBy (E.w.alloc o) none:=World.grownBy_alloc E.w o none;refine(h.grow a).push v e m (λ_ g b=>?_);have b:=(ZmG r v g).1 b;rw[d]at b;simp at b;subst b;refine⟨λs=>KT _ (h.Slt _ s),.inl h.keeps.size,by simp,λj I V c q l b=>?_⟩;exact KT _ (h.free j I V _ c q l b).2.2
theorem Zr9 (h:Inv B E H) (o:Obj) (v:Value):E.le ⟨E.S,E.w.alloc o,E.ids++[v]⟩ :=
 (ZfG (World.grownBy_alloc E.w o none) h.Slt (λg e=>by simp at e)).trans (ZlM _ v)
theorem ZyY {a:TypeId} (f:E.w.Zaf 0 a t.size v d.length xs) (H:Vt (rep E.S E.w t) d xs)
  (S':Nat->Prop) (s:∀b,E.S b->S' b) (i:∀g,Y4 v=some g->S' g):rep S' E.w (.sl t) d [v]:=by
 have h:=J8 (R':=rep S' E.w t) (λd vs=>YL s (λ_ _=>rfl) t d vs) _ _ H;rcases f.2 with⟨rfl,n⟩|⟨g,c,cur,o,rfl,_,r,q,_⟩
 ·exact⟨none,0,by rw[n],by omega,λ_=>rfl,.inl (UI n)⟩
 ·exact⟨_,c,rfl,q,λe=>by simp at e,.inr ⟨_,xs,rfl,rfl,i g rfl,f.ZiY rfl,h⟩⟩
theorem Inv.ZpN (h:Inv B E H) {r:Entry} (u:H[i]?=some r) (A:r.live=true) (D:E.ids[i]?=some v) (s:Entry) (d:s.live=false)
  (J:Zwz ⟨λb=>E.S b\/Zi9 r v b,E.w,E.ids⟩ i s):E.le ⟨λb=>E.S b\/Zi9 r v b,E.w,E.ids⟩/\Inv B ⟨λb=>E.S b\/Zi9 r v b,E.w,E.ids⟩ (H.set i s):=by
 have K:i<H.length:=(Ua.1 u).1;have t:E.le ⟨λb=>E.S b\/Zi9 r v b,E.w,E.ids⟩:=⟨λ_ h=>.inl h,λ_ _=>rfl,λ_ _ h=>h⟩;have O:∀(j:Nat) (e:Entry),(H.set i s)[j]?=some e->(j=i/\e=s)\/(j≠i/\H[j]?=some e):=by
  intro j e l;by_cases F:j=i
  ·subst F;rw[UG K]at l;exact .inl ⟨rfl,by simpa using l.symm⟩
  ·rw[UF (by omega)]at l;exact .inr ⟨F,l⟩
 refine⟨t,?_⟩;exact
  {keeps:=h.keeps
   Slt:=λb p=>p.elim (h.Slt b) (λe=>(h.free i _ v b u A D e).2.2)
   Sold:=λb p C=>by
    rcases p with p|p
    ·exact h.Sold b p C
    ·rcases(h.free i _ v b u A D p).2.1 with M|M
     ·omega
     ·exact .inr M
   len:=by simp[h.len]
   pin:=h.pin
   ent:=λj e l=>by
    rcases O j e l with⟨rfl,rfl⟩|⟨q,m⟩
    ·exact J
    ·exact ZfE t j e (λ_ _ _ _ _=>rfl) (h.ent j e m)
   free:=λj e V g l f o n=>by
    rcases O j e l with⟨rfl,rfl⟩|⟨q,m⟩
    ·rw[d]at f;cases f
    ·obtain⟨a,b,c⟩:=h.free j e V g m f o n
     exact⟨λN=>N.elim a (λQ=>q (h.sep j i e _ V v g m u f A o D n Q)),b,c⟩
   sep:=λj k I L V T g l P f x o G n y=>by
    rcases O j I l with⟨rfl,rfl⟩|⟨q,m⟩
    ·rw[d]at f;cases f
    ·rcases O k L P with⟨rfl,rfl⟩|⟨R,z⟩
     ·rw[d]at x;cases x
     ·exact h.sep j k I L V T g m z f x o G n y}
theorem Inv.freeze (h:Inv B E H) {c:TypeId} (l:H[i]?=some (.arr c t d)) (a:E.ids[i]?=some v) :
  ∃S',E.le ⟨S',E.w,E.ids⟩/\Inv B ⟨S',E.w,E.ids⟩ (H.set i (.frz t d))/\rep S' E.w (.sl t) d [v]/\(∀b,S' b->E.S b\/Y4 v=some b):=by
 obtain⟨v',xs,f,j,k⟩:=h.ent i _ l;have:=f.symm.trans a;simp at this;subst this;have F:rep (λb=>E.S b\/Y4 v'=some b) E.w (.sl t) d [v']:=ZyY j k _ (λ_ h=>.inl h) (λg o=>.inr o);obtain⟨e,m⟩:=h.ZpN l rfl a (.frz t d) rfl ⟨v',a,F⟩;exact⟨_,e,m,F,λb n=>n⟩
theorem Inv.ZEG (h:Inv B E H) {t:TypeId} {e:Dp} {d:List e.ty.den} (l:H[i]?=some (.darr t e d f)) (c:E.ids[i]?=some v) :
  ∃S',E.le ⟨S',E.w,E.ids⟩/\Inv B ⟨S',E.w,E.ids⟩ (H.set i (.frz e.ty d))/\rep S' E.w (.sl e.ty) d [v]/\(∀b,S' b->E.S b\/b∈f):=by
 obtain⟨v',xs,s,k,m,n,j,_⟩:=h.ent i _ l;have:=k.symm.trans c;simp at this;subst this;have F:rep (λb=>E.S b\/b∈f) E.w (.sl e.ty) d [v'] :=
  ZgD (S:=E.S) (λ_ h=>.inl h) (.ol t e) d [v'] f (λg q=>.inr q) ⟨v',xs,s,rfl,m,n,j⟩
 obtain⟨a,o⟩:=h.ZpN l rfl c (.frz e.ty d) rfl ⟨v',c,F⟩;exact⟨_,a,o,F,λb p=>p⟩
theorem Inv.ZEH (h:Inv B E H) {k:Ty} {d:List (k.den×t.den)} (l:H[i]?=some (.mpe k t d)) (a:E.ids[i]?=some v) :
  ∃S',E.le ⟨S',E.w,E.ids⟩/\Inv B ⟨S',E.w,E.ids⟩ (H.set i (.frm k t d))/\rep S' E.w (.mp k t) d [v]/\(∀b,S' b->E.S b\/Y4 v=some b):=by
 obtain⟨b,s,C,c,f,j⟩:=h.ent i _ l;have:=c.symm.trans a;simp at this;subst this;have F:rep (λg=>E.S g\/Y4 (.map (some b))=some g) E.w (.mp k t) d [.map (some b)] :=
  .inr ⟨b,s,C,rfl,.inr rfl,f,ZdA (λd vs=>YL (λ_ h=>.inl h) (λ_ _=>rfl) k d vs) (λd vs=>YL (λ_ h=>.inl h) (λ_ _=>rfl) t d vs) _ _ j⟩
 obtain⟨e,m⟩:=h.ZpN l rfl a (.frm k t d) rfl ⟨_,a,F⟩;exact⟨_,e,m,F,λb n=>n⟩
structure Loose (B:Base) (E:Env) (H:List Entry) (gs:List Nat):Prop where
 nodup:gs.Nodup
 free:∀g∈gs,¬E.S g/\(B.w.heap.size<=g\/B.io g)/\g<E.w.heap.size
 apart:∀g∈gs,∀(j:Nat) (ej:Entry) (vj:Value),H[j]?=some ej->ej.live=true->E.ids[j]?=some vj->¬Zi9 ej vj g
variable {gs:List Nat}
theorem Loose.perm {G:List Nat} (h:Loose B E H gs) (p:gs.Perm G):Loose B E H G :=
 ⟨p.nodup_iff.1 h.nodup,λg a=>h.free g (p.mem_iff.2 a),λg a=>h.apart g (p.mem_iff.2 a)⟩
theorem Loose.right (h:Loose B E H (f++gs)):Loose B E H gs :=
 ⟨(U2.1 h.nodup).2.1,λg a=>h.free g (by simp[a]),λg a=>h.apart g (by simp[a])⟩
theorem Loose.push (h:Loose B E H (f++gs)) (p:Inv B E H) (v:Value) (e:Entry) (n:e.live=true->∀g,Zi9 e v g->g∈f) (u:Zwz ⟨E.S,E.w,E.ids++[v]⟩ H.length e) :
  Inv B ⟨E.S,E.w,E.ids++[v]⟩ (H++[e])/\Loose B ⟨E.S,E.w,E.ids++[v]⟩ (H++[e]) gs:=by
 refine⟨p.push v e u (λq g k=>?_),?_⟩
 ·have R:g∈f++gs:=by simp[n q g k]
  obtain⟨a,b,c⟩:=h.free g R;exact⟨a,b,c,λj I V d q o=>h.apart g R j I V d q o⟩
 ·refine⟨(U2.1 h.nodup).2.1,λg k=>h.free g (by simp[k]),λg k j I V d q o r=>?_⟩
  by_cases t:j<H.length
  ·rw[Ut t]at d
   have i:E.ids[j]?=some V:=by
    have l:j<E.ids.length:=by rw[p.len];exact t
    rwa [Ut l]at o
   exact h.apart g (by simp[k]) j I V d q i r
  ·have s:j<(H++[e]).length:=(Ua.1 d).1
   have:j=H.length:=by simp at s;omega
   subst this;simp at d;subst d;have i:V=v:=by
    have m:(E.ids++[v])[H.length]?=some V:=o;rw[<-p.len]at m;simpa using m.symm
   subst i;exact(U2.1 h.nodup).2.2 g (n q g r) g k rfl
theorem Loose.take (h:Loose B E H gs) (u:Inv B E H) (k:H[i]?=some e) (q:e.live=true) (s:E.ids[i]?=some v)
  (p:f.Nodup) (n:∀g∈f,Zi9 e v g):Loose B E (H.set i .gone) (f++gs):=by
 have t:i<H.length:=(Ua.1 k).1;have d:∀(j:Nat) (I:Entry),(H.set i .gone)[j]?=some I->I.live=true->j≠i/\H[j]?=some I:=by
  intro j I b q;by_cases F:i=j
  ·subst F;rw[UG t]at b;simp at b;subst b;simp[Entry.live]at q
  ·rw[UF F]at b;exact⟨Ne.symm F,b⟩
 refine⟨U2.2 ⟨p,h.nodup,?_⟩,λg a=>?_,λg a j I V b c l w=>?_⟩
 ·rintro g a G o rfl
  exact h.apart g o i e v k q s (n g a)
 ·rcases Uu.1 a with a|a
  ·exact u.free i e v g k q s (n g a)
  ·exact h.free g a
 ·obtain⟨r,m⟩:=d j I b c
  rcases Uu.1 a with a|a
  ·exact r (u.sep j i I e V v g m k c q l s w (n g a))
  ·exact h.apart g a j I V m c l w
theorem Loose.le (h:Loose B E H gs):Loose B E H ([]++gs):=h
theorem Loose.put (h:Loose B E H (f++gs)) (c:Inv B E H) {I:Nat} (D:I<H.length) (A:E.ids[I]?=some v) (e:Entry) (n:e.live=true->∀g,Zi9 e v g->g∈f) (K:Zwz E I e) :
  Inv B E (H.set I e)/\Loose B E (H.set I e) gs:=by
 have d:∀(j:Nat) (a:Entry),(H.set I e)[j]?=some a->(j=I/\a=e)\/(j≠I/\H[j]?=some a):=by
  intro j a b;by_cases F:I=j
  ·subst F;rw[UG D]at b;exact .inl ⟨rfl,by simpa using b.symm⟩
  ·rw[UF F]at b;exact .inr ⟨Ne.symm F,b⟩
 refine⟨?_,?_⟩
 ·exact
   {keeps:=c.keeps,Slt:=c.Slt,Sold:=c.Sold,len:=by simp[c.len],pin:=c.pin
    ent:=λj a b=>by
     rcases d j a b with⟨rfl,rfl⟩|⟨_,m⟩
     ·exact K
     ·exact c.ent j a m
    free:=λj a u g b w x s=>by
     rcases d j a b with⟨rfl,rfl⟩|⟨_,m⟩
     ·have:=A.symm.trans x;simp at this;subst this
      exact h.free g (by simp[n w g s])
     ·exact c.free j a u g m w x s
    sep:=λi j C y V J g L b o p q r k l=>by
     rcases d i C L with⟨rfl,rfl⟩|⟨M,t⟩
     ·have:=A.symm.trans q;simp at this;subst this
      rcases d j y b with⟨rfl,rfl⟩|⟨G,m⟩
      ·rfl
      ·exact absurd l (h.apart g (by simp[n o g k]) j y J m p r)
     ·rcases d j y b with⟨rfl,rfl⟩|⟨G,m⟩
      ·have:=A.symm.trans r;simp at this;subst this
       exact absurd k (h.apart g (by simp[n p g l]) i C V t o q)
      ·exact c.sep i j C y V J g t m o p q r k l}
 ·refine⟨(U2.1 h.nodup).2.1,λg z=>h.free g (by simp[z]),λg z j a u b w x s=>?_⟩
  rcases d j a b with⟨rfl,rfl⟩|⟨_,m⟩
  ·have:=A.symm.trans x;simp at this;subst this
   exact(U2.1 h.nodup).2.2 g (n w g s) g z rfl
  ·exact h.apart g (by simp[z]) j a u m w x s
theorem Loose.drop (h:Loose B E H gs) (i:Nat):Loose B E (H.set i .gone) gs:=by
 refine⟨h.nodup,h.free,λg c j I V b q v a=>?_⟩;by_cases F:i=j
 ·subst F
  have t:i<H.length:=by have:=(Ua.1 b).1;simpa using this
  rw[UG t]at b;simp at b;subst b;cases q
 ·rw[UF F]at b;exact h.apart g c j I V b q v a
variable {H':List Entry}
theorem Inv.part (h:Inv B E H) (l:H'.length=H.length) (p:∀(j:Nat) (e:Entry),H'[j]?=some e->e=.gone\/H[j]?=some e):Inv B E H' :=
 {keeps:=h.keeps,Slt:=h.Slt,Sold:=h.Sold,len:=by rw[l];exact h.len,pin:=h.pin
  ent:=λj e b=>by
   rcases p j e b with rfl|m
   ·trivial
   ·exact h.ent j e m
  free:=λj e v g b c s n=>by
   rcases p j e b with rfl|m
   ·cases c
   ·exact h.free j e v g m c s n
  sep:=λi j C I V u g r b o f q a k d=>by
   rcases p i C r with rfl|t
   ·cases o
   ·rcases p j I b with rfl|m
    ·cases f
    ·exact h.sep i j C I V u g t m o f q a k d}
structure Frz (E:Env) (H:List Entry) (E':Env) (H':List Entry):Prop where
 w:E'.w=E.w
 ids:E'.ids=E.ids
 len:H'.length=H.length
 le:E.le E'
 S:∀b,E'.S b->E.S b\/∃(j:Nat) (e:Entry) (v:Value),H[j]?=some e/\e.live=true/\E.ids[j]?=some v/\Zi9 e v b
 ent:∀(j:Nat) (e':Entry) (v:Value) (g:Nat),H'[j]?=some e'->e'.live=true->E.ids[j]?=some v->Zi9 e' v g->∃e,H[j]?=some e/\e.live=true/\Zi9 e v g
 box:∀(i:Nat) (c:List SV),H'[i]?=some (.box c)->H[i]?=some (.box c)
 gone:∀(i:Nat),H[i]?=some .gone->H'[i]?=some .gone
 same:∀(j:Nat) (e':Entry),H'[j]?=some e'->e'.live=true->H[j]?=some e'
theorem Frz.refl (E:Env) (H:List Entry):Frz E H E H :=
 ⟨rfl,rfl,rfl,Env.le.refl E,λb h=>.inl h,λj e v g h q _ a=>⟨e,h,q,a⟩,λ_ _ h=>h,λ_ h=>h,λ_ _ h _=>h⟩
variable {E1:Env} {H1:List Entry} {E2:Env} {H2:List Entry}
theorem Frz.trans (h:Frz E H E1 H1) (k:Frz E1 H1 E2 H2):Frz E H E2 H2 where
 w:=k.w.trans h.w
 ids:=k.ids.trans h.ids
 len:=k.len.trans h.len
 le:=h.le.trans k.le
 S:=λb a=>by
  rcases k.S b a with a|⟨j,e,v,f,l,d,u⟩
  ·exact h.S b a
  ·obtain⟨p,G,s,t⟩:=h.ent j e v b f l (by rw[<-h.ids];exact d) u
   exact .inr ⟨j,p,v,G,s,by rw[<-h.ids];exact d,t⟩
 ent:=λj e v g n q o a=>by
  obtain⟨r,f,l,d⟩:=k.ent j e v g n q (by rw[h.ids];exact o) a;exact h.ent j r v g f l o d
 box:=λi c m=>h.box i c (k.box i c m)
 gone:=λi m=>k.gone i (h.gone i m)
 same:=λj e n q=>h.same j e (k.same j e n q) q
theorem Frz.one {k l:Entry} (p:H[i]?=some k) (q:k.live=true) (u:E.ids[i]?=some v) (d:l.live=false)
  (r:E.le ⟨S',E.w,E.ids⟩) (s:∀b,S' b->E.S b\/Zi9 k v b):Frz E H ⟨S',E.w,E.ids⟩ (H.set i l):=by
 have t:=(Ua.1 p).1;have o:∀(j:Nat) (e:Entry),(H.set i l)[j]?=some e->e=l\/H[j]?=some e:=by
  intro j e a;by_cases F:i=j
  ·subst F;rw[UG t]at a;exact .inl (by simpa using a.symm)
  ·rw[UF F]at a;exact .inr a
 exact
  {w:=rfl,ids:=rfl,len:=by simp,le:=r
   S:=λb n=>(s b n).imp_right λh=>⟨i,k,v,p,q,u,h⟩
   ent:=λj e v g a q _ n=>by
    rcases o j e a with rfl|m
    ·rw[d]at q;cases q
    ·exact⟨e,m,q,n⟩
   box:=λj c a=>by
    rcases o j _ a with h|m
    ·rw[<-h]at d;cases d
    ·exact m
   gone:=λj a=>by
    by_cases F:i=j
    ·subst F;rw[p]at a;simp at a;subst a;cases q
    ·rw[UF F];exact a
   same:=λj e a f=>by
    rcases o j e a with rfl|m
    ·rw[d]at f;cases f
    ·exact m}
theorem Loose.frz (h:Loose B E H gs) (k:Frz E H E' H'):Loose B E' H' gs :=
  ⟨h.nodup,λg d=>by
    obtain⟨a,b,c⟩:=h.free g d;refine⟨λq=>?_,b,by rw[k.w];exact c⟩;rcases k.S g q with q|⟨j,e,v,f,i,l,o⟩
    · exact a q
    · exact h.apart g d j e v f i l o,
   λg d j e v r s m p=>by
    obtain ⟨n,f,i,l⟩:=k.ent j e v g r s (by rw[<-k.ids];exact m) p;exact h.apart g d j n v f i (by rw[<-k.ids];exact m) l⟩
def ZlE (E:Env) (H H':List Entry) (f:List Nat):Prop:=∀g∈f,∃(i:Nat) (e:Entry) (v:Value),H[i]?=some e/\e.live=true/\E.ids[i]?=some v/\Zi9 e v g/\H'[i]?=some .gone
theorem ZlE.nil (E:Env) (H H':List Entry):ZlE E H H' []:=λg a=>by simp at a
theorem ZlE.append (h:ZlE E H H' f) (a:ZlE E H H' F):ZlE E H H' (f++F):=λg b=>(Uu.1 b).elim (h g) (a g)
theorem ZlE.later (h:ZlE E H H1 f) (k:Frz E1 H1 E2 H2):ZlE E H H2 f:=λg l=>by
 obtain⟨i,e,v,d,a,b,c,j⟩:=h g l;exact⟨i,e,v,d,a,b,c,k.gone i j⟩
theorem ZlE.after (k:Frz E H E1 H1) (h:ZlE E1 H1 H2 f):ZlE E H H2 f:=λg n=>by
 obtain⟨i,e,v,d,j,a,l,m⟩:=h g n;obtain⟨b,G,c,t⟩:=k.ent i e v g d j (by rw[<-k.ids];exact a) l;exact⟨i,b,v,G,c,by rw[<-k.ids];exact a,t,m⟩
theorem ZlE.sub (h:ZlE E H H' f) (q:∀g∈F,g∈f):ZlE E H H' F:=λg a=>h g (q g a)
def ZoX:List Entry->List Entry->List Entry
 |[],_=>[]
 |e::r,[]=>e::r
 |e::r,E::a=>match E with
  | .gone=>.gone::ZoX r a
  |_=>e::ZoX r a
theorem ZoE:∀(H H1:List Entry),(ZoX H H1).length=H.length
 |[],_=>rfl
 |_::_,[]=>rfl
 |e::r,E::a=>by
  unfold ZoX;split<;>simp[ZoE r a]
theorem Zm9:∀(H H1:List Entry) (j:Nat) (e:Entry),(ZoX H H1)[j]?=some e->e=.gone\/(H[j]?=some e/\H1[j]?≠some .gone)
 |[],_,j,e,h=>by simp[ZoX]at h
 |e0::r,[],j,e,h=>by
  simp only[ZoX]at h;exact .inr ⟨h,by simp⟩
 |e0::r,E::R,j,e,h=>by
  unfold ZoX at h;split at h
  ·cases j with
   |zero=>simp at h;exact .inl h.symm
   |succ j=>simpa using Zm9 r R j e (by simpa using h)
  ·rename_i a
   cases j with
   |zero =>
    simp at h;subst h;refine .inr ⟨rfl,λm=>?_⟩;simp at m;exact a m
   |succ j=>simpa using Zm9 r R j e (by simpa using h)
theorem ZvU (n:Inv B E H) (k:Frz E H E1 H1) (o:Loose B E1 H1 f) (z:ZlE E H H1 f):Inv B E (ZoX H H1)/\Loose B E (ZoX H H1) f:=by
 refine⟨n.part (ZoE H H1) (λj e d=>(Zm9 H H1 j e d).imp_right And.left),o.nodup,λg h=>?_,λg h j e v d q D A=>?_⟩
 ·obtain⟨a,b,c⟩:=o.free g h
  exact⟨λC=>a (k.le.S g C),b,by rw[<-k.w];exact c⟩
 ·rcases Zm9 H H1 j e d with rfl|⟨m,l⟩
  ·cases q
  ·obtain⟨i,p,u,r,s,t,x,y⟩:=z g h
   have:=n.sep j i e p v u g m r q s D t A x;subst this;exact l y
inductive TK
 |int (k:IntKind)
 |bool
 |str
 |sl
 |arr (n:Nat)
 |st
 |ptr
 |mp (k e:TypeId)
 |oth
def ZyG:TypeDesc->TK
 | .int k=>.int k
 | .bool=>.bool
 | .string=>.str
 | .slice _=>.sl
 | .array n _=>.arr n
 | .struct _=>.st
 | .pointer _=>.ptr
 | .map k e=>.mp k e
 |_=>.oth
def TK.agg:TK->Bool
 | .st=>true
 | .arr _=>true
 |_=>false
def TK.ZHP:TK->Bool
 | .st=>true
 |_=>false
inductive EqD
 |nil
 |int (k:IntKind) (o:Nat) (r:EqD)
 |bool (o:Nat) (r:EqD)
 |str (o:Nat) (r:EqD)
 |st (o sz:Nat) (fs r:EqD)
def ZwP (k:IntKind):Option TypeDesc->Bool
 |some (.int K)=>decide (K=k)
 |_=>false
def ZsF:Option TypeDesc->Bool
 |some .bool=>true
 |_=>false
def ZwQ:Option TypeDesc->Bool
 |some .string=>true
 |_=>false
def EqD.fits (P:Program):EqD->List Field->Bool
 | .nil,l=>l.isEmpty
 | .int k o r,l=>match l with
  |[]=>false
  |f::l=>f.name != "_" && f.offset==o&&ZwP k (P.underlying f.type)&&r.fits P l
 | .bool o r,l=>match l with
  |[]=>false
  |f::l=>f.name != "_" && f.offset==o&&ZsF (P.underlying f.type)&&r.fits P l
 | .str o r,l=>match l with
  |[]=>false
  |f::l=>f.name != "_" && f.offset==o&&ZwQ (P.underlying f.type)&&r.fits P l
 | .st o z s r,l=>match l with
  |[]=>false
  | f::l=>f.name != "_" && f.offset == o&&(match P.underlying f.type with
    |some (.struct gs)=>!P.stoodInHeld f.type&&s.fits P gs.toList
    | _=>false)&&(P.info? f.type).map (·.size) == some z&&r.fits P l
def EqD.isNil:EqD->Bool
 | .nil=>true
 |_=>false
structure TI where
 size:Nat
 bytes:Nat
 zero:Value
 kind:TK
 flds:List (Nat×Nat×Bool):=[]
 elem:TypeId:=0
 esize:Nat:=0
 ebytes:Nat:=0
 ezero:Value:=undef
 eagg:Bool:=false
 ty:Ty:=.unit
 ety:Ty:=.unit
 eqd:EqD:=.nil
 edp:Option Dp:=none
 cut:Bool:=false
def ZjE:TypeDesc->Bool
 | .struct _=>true
 | .array _ _=>true
 |_=>false
structure ZeP (P:Program) (T:TypeId) (ti:TI):Prop where
 info:(P.info? T).map (λi=>(i.size,i.bytes,i.zero))=some (ti.size,ti.bytes,some ti.zero)
 kind:(P.underlying T).map ZyG=some ti.kind
 flds:(match P.underlying T with
  |some (.struct fs)=>fs.toList.map (λf=>(f.offset,(P.info? f.type).map (·.size),(P.underlying f.type).map ZjE))
  | _=>[])=ti.flds.map (λx=>(x.1,some x.2.1,some x.2.2))
 elem:(match P.underlying T with
  |some (.slice e)=>some (e,(P.info? e).map (λi=>(i.size,i.bytes,i.zero)),((P.underlying e).map ZjE))
  |some (.array _ e)=>some (e,(P.info? e).map (λi=>(i.size,i.bytes,i.zero)),((P.underlying e).map ZjE))
  |_=>none)=(match ti.kind with
  | .sl=>some (ti.elem,some (ti.esize,ti.ebytes,some ti.ezero),some ti.eagg)
  | .arr _=>some (ti.elem,some (ti.esize,ti.ebytes,some ti.ezero),some ti.eagg)
  | _=>none)
 eqd:(ti.eqd.isNil||match P.underlying T with
  |some (.struct fs)=>!P.stoodInHeld T&&ti.eqd.fits P fs.toList&&!P.eqGuardType P.depth T
  | _=>false)=true
abbrev Tab:=List (Nat×TI)
def Tab.ok (Δ:Tab) (P:Program):Prop:=∀x∈Δ,ZeP P x.1 x.2
def ZeD:Tab->Nat->(TI->Prop)->Prop
 |[],_,_=>False
 |(n,t)::r,T,K=>if n=T then K t else ZeD r T K
theorem Qd {P:Program}:∀(Δ:Tab),Δ.ok P->∀{T:Nat} {K:TI->Prop},ZeD Δ T K->∃t,ZeP P T t/\K t
 |[],_,_,_,h=>h.elim
 |(n,t)::r,hΔ,T,K,h=>by
  unfold ZeD at h;split at h
  ·rename_i e;subst e;exact⟨t,hΔ (n,t) (by simp),h⟩
  ·exact Qd r (λx l=>hΔ x (by simp[l])) h
def ZoP:List SV->Nat->(SV->Prop)->Prop
 |[],_,_=>False
 |s::_,0,K=>K s
 |_::r,n+1,K=>ZoP r n K
theorem ZdB {E:Env}:∀(cs:List SV) (vs:List Value),Yu E cs vs->∀{n:Nat} {K:SV->Prop},ZoP cs n K->∃s v,vs[n]?=some v/\den E s v/\K s/\cs[n]?=some s
 |[],_,_,_,_,h=>h.elim
 |c::cs,v::vs,N,0,K,h=>by simp only[Yu]at N;exact⟨c,v,rfl,N.1,h,rfl⟩
 |c::cs,v::vs,N,n+1,K,h=>by simp only[Yu]at N;simpa using ZdB cs vs N.2 (n:=n) h
 |_::_,[],N,_,_,_=>by simp[Yu]at N
def Zyn:List SV->Nat->SV->(List SV->Prop)->Prop
 |[],_,_,K=>K []
 |_::r,0,s,K=>K (s::r)
 |x::r,n+1,s,K=>Zyn r n s λR=>K (x::R)
theorem ZgF:∀(cs:List SV) (n:Nat) (s:SV) (K:List SV->Prop),Zyn cs n s K=K (cs.set n s)
 |[],_,_,_=>rfl
 |_::_,0,_,_=>rfl
 |x::r,n+1,s,K=>by simp[Zyn,ZgF r n s]
def ZtB {α:Type}:List α->List α->(List α->Prop)->Prop
 |[],l,K=>K l
 |x::r,l,K=>ZtB r l λR=>K (x::R)
theorem Zde {α:Type}:∀(cs l:List α) (K:List α->Prop),ZtB cs l K=K (cs++l)
 |[],_,_=>rfl
 |x::r,l,K=>by simp[ZtB,Zde r l]
def ZkI {α:Type}:List α->Nat->(List α->Prop)->Prop
 |l,0,K=>K l
 |[],_+1,K=>K []
 |_::r,n+1,K=>ZkI r n K
theorem ZdY {α:Type}:∀(cs:List α) (n:Nat) (K:List α->Prop),ZkI cs n K=K (cs.drop n)
 |l,0,_=>by cases l<;>rfl
 |[],_+1,_=>rfl
 |_::r,n+1,K=>by simp[ZkI,ZdY r n]
def Zrl {α:Type}:List α->Nat->(List α->Prop)->Prop
 |_,0,K=>K []
 |[],_+1,K=>K []
 |x::r,n+1,K=>Zrl r n λR=>K (x::R)
theorem Zke {α:Type}:∀(cs:List α) (n:Nat) (K:List α->Prop),Zrl cs n K=K (cs.take n)
 |l,0,_=>by cases l<;>rfl
 |[],_+1,_=>rfl
 |x::r,n+1,K=>by simp[Zrl,Zke r n]
def ZvA {α:Type}:List α->Nat->(Nat->Prop)->Prop
 |[],n,K=>K n
 |_::r,n,K=>ZvA r (n+1) K
theorem Zek {α:Type}:∀(l:List α) (n:Nat) (K:Nat->Prop),ZvA l n K=K (n+l.length)
 |[],_,_=>rfl
 |_::r,n,K=>by simp[ZvA,Zek r (n+1),Nat.add_assoc,Nat.add_comm 1]
def ZiG:List Entry->Nat->(Entry->Prop)->Prop
 |[],_,_=>False
 |s::_,0,K=>K s
 |_::r,n+1,K=>ZiG r n K
theorem XB:∀(H:List Entry) {n:Nat} {K:Entry->Prop},ZiG H n K->∃e,H[n]?=some e/\K e
 |[],_,_,h=>h.elim
 |e::_,0,K,h=>⟨e,rfl,h⟩
 |_::r,n+1,K,h=>by simpa using XB r (n:=n) h
def ZjD:List Entry->Nat->Entry->(List Entry->Prop)->Prop
 |[],_,_,K=>K []
 |_::r,0,s,K=>K (s::r)
 |x::r,n+1,s,K=>ZjD r n s λR=>K (x::R)
theorem Qa:∀(cs:List Entry) (n:Nat) (s:Entry) (K:List Entry->Prop),ZjD cs n s K=K (cs.set n s)
 |[],_,_,_=>rfl
 |_::_,0,_,_=>rfl
 |x::r,n+1,s,K=>by simp[ZjD,Qa r n s]
def JE:(t:Ty)->t.den->(List SV->Prop)->Prop
 | .int k,n,K=>K [.int k n]
 | .bool,b,K=>K [.bool b]
 | .str,s,K=>K [.str s]
 | .sl t,l,K=>K [.sl t l]
 | .unit,_,K=>K []
 | .ptr t,d,K=>JE t d λcs=>K [.fptr cs]
 | .fn f t,d,K=>JE t d λcs=>K [.fn f cs]
 | .nptr t,d,K=>K [.nptr t d]
 | .mp k v,d,K=>K [.mp k v d]
 | .pair _ _,d,K=>Zr d λx y=>JE _ x λc1=>JE _ y λc2=>ZtB c1 c2 K
theorem QS:∀(t:Ty) (d:t.den) (K:List SV->Prop),JE t d K=K (Zhr t d)
 | .int _,_,_=>rfl
 | .bool,_,_=>rfl
 | .str,_,_=>rfl
 | .sl _,_,_=>rfl
 | .unit,_,_=>rfl
 | .ptr t,d,K=>by simp[JE,Zhr,QS t]
 | .fn f t,d,K=>by simp[JE,Zhr,QS t]
 | .nptr t,d,K=>rfl
 | .mp k v,d,K=>rfl
 | .pair a b,d,K=>by simp[JE,Zhr,Zag,QS a,QS b,Zde]
def Zlu {α:Type} (d:List α) (i:Int) (K:α->Prop):Prop:=0<=i/\i<(d.length:Int)/\∀x,d[i.toNat]?=some x->K x
def ZmD:Value->Option SV
 | .int k n=>some (.int k n)
 | .bool b=>some (.blit b)
 | .string s=>some (.str s.data.toList)
 | .slice none 0 0=>some .nsl
 | .pointer none=>some .nilp
 | .map none=>some (.mp .unit .unit [])
 |_=>none
theorem Zop (E:Env) (v:Value) (s:SV) (h:ZmD v=some s):den E s v:=by
 unfold ZmD at h;split at h<;>simp at h<;>subst h<;>simp[den,rep]
def ZhV:List Value->Option (List SV)
 |[]=>some []
 |v::r=>match ZmD v,ZhV r with
  |some s,some l=>some (s::l)
  |_,_=>none
theorem ZjJ (E:Env):∀(vs:List Value) (cs:List SV),ZhV vs=some cs->Yu E cs vs
 |[],cs,h=>by simp[ZhV]at h;subst h;trivial
 |v::r,cs,h=>by
  simp only[ZhV]at h;split at h
  ·rename_i s l d f
   simp at h;subst h;exact⟨Zop E v s d,ZjJ E r l f⟩
  ·simp at h
def Zzd (v:Value) (K:SV->Prop):Prop :=
 match v with
 | .agg cs=>match ZhV cs.toList with
  |some l=>K (.agg l)
  |none=>False
 |v=>match ZmD v with
  |some s=>K s
  |none=>False
theorem Zze (E:Env) (v:Value) (K:SV->Prop) (h:Zzd v K):∃s,den E s v/\K s:=by
 unfold Zzd at h;split at h
 ·rename_i cs
  split at h
  ·rename_i l q
   exact⟨.agg l,by simp only[den];exact⟨cs.toList,by simp,ZjJ E _ _ q⟩,h⟩
  ·exact h.elim
 ·split at h
  ·rename_i s H;exact⟨s,Zop E _ s H,h⟩
  ·exact h.elim
def ZqV (v:Value) (K:List SV->Prop):Prop :=
 match ZhV v.cells.toList with
 |some l=>K l
 |none=>False
theorem ZhU (E:Env) (v:Value) (K:List SV->Prop) (h:ZqV v K):∃l,Yu E l v.cells.toList/\K l:=by
 unfold ZqV at h;split at h
 ·rename_i l q;exact⟨l,ZjJ E _ _ q,h⟩
 ·exact h.elim
def Za1 (r:List SV) (o:Operand) (K:SV->Prop):Prop :=
 match o with
 | .tmp t=>ZoP r t K
 | .const v=>Zzd v K
 | .func f=>K (.fn f [])
 | .global _=>False
theorem YU {r:List SV} {a:Act} (N:Yu E r a.tmps.toList) {o:Operand} {K:SV->Prop} (h:Za1 r o K):∃s,den E s (a.eval o)/\K s:=by
 cases o with
 |tmp t =>
  obtain⟨s,v,d,b,c,_⟩:=ZdB _ _ N h;refine⟨s,?_,c⟩;have:a.eval (.tmp t)=v:=by
   have H:a.tmps[t]?=some v:=by simpa using d
   simp[Act.eval,H]
  rw[this];exact b
 |const v=>exact Zze E v K h
 |func f=>exact⟨_,by simp only[den];exact⟨[],by simp[Act.eval],trivial⟩,h⟩
 |global g=>exact h.elim
def SV.one:SV->Bool
 | .bot=>false
 | .agg _=>false
 | .tup _=>false
 |_=>true
variable {s:SV}
theorem ZkW (h:den E s v) (d:s.one=true):v.cells=#[v]/\v.oneCell'=true:=by
 cases s<;>simp[SV.one]at d<;>simp only[den]at h
 case int=>subst h;exact⟨rfl,rfl⟩
 case bool=>subst h;exact⟨rfl,rfl⟩
 case blit=>subst h;exact⟨rfl,rfl⟩
 case str=>subst h;exact⟨rfl,rfl⟩
 case sl=>obtain⟨a,c,e,_⟩:=h;simp at e;subst e;exact⟨rfl,rfl⟩
 case nsl=>subst h;exact⟨rfl,rfl⟩
 case ptr=>obtain⟨b,_,e⟩:=h;subst e;exact⟨rfl,rfl⟩
 case own=>obtain⟨_,a,n,c,e⟩:=h;subst e;exact⟨rfl,rfl⟩
 case oep=>obtain⟨b,B,n,c,_,e⟩:=h;subst e;exact⟨rfl,rfl⟩
 case fptr=>obtain⟨p,vs,e,_⟩:=h;subst e;exact⟨rfl,rfl⟩
 case fn=>obtain⟨vs,e,_⟩:=h;subst e;exact⟨rfl,rfl⟩
 case nilp=>subst h;exact⟨rfl,rfl⟩
 case nptr=>rcases h with⟨_,e⟩|⟨_,_,_,_,e,_⟩<;>simp at e<;>subst e<;>exact⟨rfl,rfl⟩
 case mown=>obtain⟨_,b,e⟩:=h;subst e;exact⟨rfl,rfl⟩
 case mp=>rcases h with⟨_,e⟩|⟨_,_,_,e,_⟩<;>simp at e<;>subst e<;>exact⟨rfl,rfl⟩
def SV.cells:SV->List SV
 | .agg cs=>cs
 |s=>[s]
def SV.whole:SV->Bool
 | .agg _=>true
 |s=>s.one
def Zru:List SV->Bool
 |[]=>true
 |s::r=>s.one&&Zru r
theorem Zbe (h:den E s v) (c:s.whole=true):Yu E s.cells v.cells.toList:=by
 by_cases d:s.one=true
 ·have:=(ZkW h d).1
  rw[this];cases s<;>simp[SV.one]at d<;>exact⟨h,trivial⟩
 ·cases s<;>simp[SV.one]at d<;>simp[SV.whole,SV.one]at c
  case agg cs =>
   simp only[den]at h;obtain⟨vs,rfl,f⟩:=h;simpa[SV.cells,Value.cells]using f
theorem Zix {E:Env}:∀(cs:List SV) (vs:List Value),Yu E cs vs->Zru cs=true->∀v∈vs,v.oneCell'=true
 |[],[],_,_,v,a=>by simp at a
 |c::cs,v0::vs,h,d,v,a=>by
  simp only[Yu]at h;simp only[Zru,Ur]at d;rcases UD.1 a with rfl|a
  ·exact(ZkW h.1 d.1).2
  ·exact Zix cs vs h.2 d.2 v a
 |[],_::_,h,_,_,_=>by simp[Yu]at h
 |_::_,[],h,_,_,_=>by simp[Yu]at h
def ZGE {a v' k v:Ty} (H:a=k) (h:v'=v) (d:List (a.den×v'.den)) (K:List (k.den×v.den)->Prop):Prop :=
 Eq.rec (motive:=λk _=>(List (k.den×v.den)->Prop)->Prop) (λK=>Eq.rec (motive:=λv _=>(List (a.den×v.den)->Prop)->Prop) (λK=>K d) h K) H K
def QC:(t:Ty)->List SV->(t.den->List SV->Prop)->Prop
 | .int k,cs,K=>match cs with
  | .int c n::r=>if c=k then K n r else False
  |_=>False
 | .bool,cs,K=>match cs with
  | .bool b::r=>K b r
  | .blit b::r=>K b r
  |_=>False
 | .str,cs,K=>match cs with
  | .str s::r=>K s r
  |_=>False
 | .sl t,cs,K=>match cs with
  | .sl t' d::r=>if h:t'=t then ZxJ h d λD=>K D r else False
  | .nsl::r=>K [] r
  |_=>False
 | .unit,cs,K=>K () cs
 | .ptr t,cs,K=>match cs with
  | .fptr C::r=>QC t C λx _=>K x r
  | .nptr t' d::r=>if h:t'=t then ZEr h d λD=>∃x,D=some x/\K x r else False
  |_=>False
 | .nptr t,cs,K=>match cs with
  | .nptr t' d::r=>if h:t'=t then ZEr h d λD=>K D r else False
  | .nilp::r=>K none r
  | .fptr C::r=>QC t C λx _=>K (some x) r
  |_=>False
 | .mp k v,cs,K=>match cs with
  | .mp c v' d::r=>if h:c=k then(if h':v'=v then ZGE h h' d λD=>K D r else False)else False
  |_=>False
 | .fn f t,cs,K=>match cs with
  | .fn F C::r=>if F=f then QC t C λx R=>match R with
    |[]=>K x r
    |_=>False
   else False
  |_=>False
 | .pair a b,cs,K=>QC a cs λx r=>QC b r λy R=>K (x,y) R
theorem Qj {E:Env}:∀(t:Ty) (cs:List SV) (K:t.den->List SV->Prop) (vs:List Value),Yu E cs vs->QC t cs K->
  ∃d r v1 V,vs=v1++V/\rep E.S E.w t d v1/\Yu E r V/\K d r
 | .int k,cs,K,vs,N,h=>by
  simp only[QC]at h;split at h
  ·rename_i M n r
   split at h
   ·rename_i e;subst e
    match vs,N with
    |v::vs,N=>simp only[Yu,den]at N;exact⟨n,r,[v],vs,rfl,by rw[N.1];rfl,N.2,h⟩
    |[],N=>simp[Yu]at N
   ·exact h.elim
  ·exact h.elim
 | .bool,cs,K,vs,N,h=>by
  simp only[QC]at h;split at h
  ·rename_i b r
   match vs,N with
   |v::vs,N=>simp only[Yu,den]at N;exact⟨b,r,[v],vs,rfl,by rw[N.1];rfl,N.2,h⟩
   |[],N=>simp[Yu]at N
  ·rename_i b r
   match vs,N with
   |v::vs,N=>simp only[Yu,den]at N;exact⟨b,r,[v],vs,rfl,by rw[N.1];rfl,N.2,h⟩
   |[],N=>simp[Yu]at N
  ·exact h.elim
 | .str,cs,K,vs,N,h=>by
  simp only[QC]at h;split at h
  ·rename_i b r
   match vs,N with
   |v::vs,N=>simp only[Yu,den]at N;exact⟨b,r,[v],vs,rfl,by rw[N.1];rfl,N.2,h⟩
   |[],N=>simp[Yu]at N
  ·exact h.elim
 | .sl t,cs,K,vs,N,h=>by
  simp only[QC]at h;split at h
  ·rename_i t' d r
   split at h
   ·rename_i e;subst e
    match vs,N with
    |v::vs,N=>simp only[Yu,den]at N;exact⟨d,r,[v],vs,rfl,N.1,N.2,h⟩
    |[],N=>simp[Yu]at N
   ·exact h.elim
  ·rename_i r
   match vs,N with
   |v::vs,N=>simp only[Yu,den]at N;exact⟨[],r,[v],vs,rfl,by rw[N.1];exact⟨none,0,rfl,UO _,λ_=>rfl,.inl rfl⟩,N.2,h⟩
   |[],N=>simp[Yu]at N
  ·exact h.elim
 | .unit,cs,K,vs,N,h=>⟨(),cs,[],vs,rfl,rfl,N,h⟩
 | .ptr t,cs,K,vs,N,h=>by
  simp only[QC]at h;split at h
  ·rename_i C r
   match vs,N with
   |v::vs,N =>
    simp only[Yu,den] at N;obtain ⟨⟨p,xs,e,z,s,l,H⟩,c⟩:=N;obtain ⟨d,R,v1,V,i,o,q,g⟩:=Qj t C _ xs H h;exact ⟨d,r,[v],vs,rfl,⟨p,v1,by rw[e],z,s,λj u A=>l j u (by
     rw[i,Ut (Ua.1 A).1];exact A),o⟩,c,g⟩
   |[],N=>simp[Yu]at N
  ·rename_i t' d r
   split at h
   ·rename_i e;subst e
    rw[Zwr]at h;obtain⟨x,l,h⟩:=h
    match vs,N with
    |v::vs,N =>
     simp only[Yu,den]at N;have l:d=some x:=l;rcases N.1 with⟨m,_⟩|⟨X,p,xs,m,e,z,s,J,L⟩
     ·rw[l]at m;cases m
     ·rw[l]at m;injection m with m;subst m
      exact⟨x,r,[v],vs,rfl,⟨p,xs,e,z,s,J,L⟩,N.2,h⟩
    |[],N=>simp[Yu]at N
   ·exact h.elim
  ·exact h.elim
 | .nptr t,cs,K,vs,N,h=>by
  simp only[QC]at h;split at h
  ·rename_i t' d r
   split at h
   ·rename_i e;subst e
    rw[Zwr]at h
    match vs,N with
    |v::vs,N=>simp only[Yu,den]at N;exact⟨d,r,[v],vs,rfl,N.1,N.2,h⟩
    |[],N=>simp[Yu]at N
   ·exact h.elim
  ·rename_i r
   match vs,N with
   |v::vs,N=>simp only[Yu,den]at N;exact⟨none,r,[v],vs,rfl,.inl ⟨rfl,by rw[N.1]⟩,N.2,h⟩
   |[],N=>simp[Yu]at N
  ·rename_i C r
   match vs,N with
   |v::vs,N =>
    simp only[Yu,den] at N;obtain ⟨⟨p,xs,e,z,s,l,H⟩,c⟩:=N;obtain ⟨d,R,v1,V,i,o,q,g⟩:=Qj t C _ xs H h;exact ⟨some d,r,[v],vs,rfl,.inr ⟨d,p,v1,rfl,by rw[e],z,s,λj u A=>l j u (by
     rw[i,Ut (Ua.1 A).1];exact A),o⟩,c,g⟩
   |[],N=>simp[Yu]at N
  ·exact h.elim
 | .mp k u,cs,K,vs,N,h=>by
  simp only[QC]at h;split at h
  ·rename_i M u' d r
   split at h
   ·rename_i e;subst e
    split at h
    ·rename_i e;subst e
     have h:K d r:=h
     match vs,N with
     |v::vs,N=>simp only[Yu,den]at N;exact⟨d,r,[v],vs,rfl,N.1,N.2,h⟩
     |[],N=>simp[Yu]at N
    ·exact h.elim
   ·exact h.elim
  ·exact h.elim
 | .fn f t,cs,K,vs,N,h=>by
  simp only[QC]at h;split at h
  ·rename_i P C r
   split at h
   ·rename_i e;subst e
    match vs,N with
    |v::vs,N =>
     simp only[Yu,den]at N;obtain⟨⟨xs,e,H⟩,c⟩:=N;obtain⟨d,R,v1,V,i,o,q,g⟩:=Qj t C _ xs H h;split at g
     ·have B:V=[]:=by cases V with
       |nil=>rfl
       |cons=>simp[Yu]at q
      subst B;rw[Un]at i;subst i;exact⟨d,r,[v],vs,rfl,⟨xs,by rw[e],o⟩,c,g⟩
     ·exact g.elim
    |[],N=>simp[Yu]at N
   ·exact h.elim
  ·exact h.elim
 | .pair a b,cs,K,vs,N,h=>by
  obtain⟨x,r,v1,V,i,o,q,g⟩:=Qj a cs _ vs N h;obtain⟨y,R,v3,O,D,F,G,I⟩:=Qj b r _ V q g;exact⟨(x,y),R,v1++v3,O,by rw[i,D,Uj],⟨v1,v3,rfl,o,F⟩,G,I⟩
def ZKY (op:BinOp) (k:IntKind) (a b:Int) (K:SV->Prop):Prop :=
 match op with
 | .add=>K (.int k (k.wrap (a+b)))
 | .sub=>K (.int k (k.wrap (a-b)))
 | .mul=>K (.int k (k.wrap (a*b)))
 | .quo=>b≠0/\K (.int k (k.wrap (a.tdiv b)))
 | .rem=>b≠0/\K (.int k (a.tmod b))
 | .eql=>K (.bool (decide (a=b)))
 | .neq=>K (.bool (!decide (a=b)))
 | .lss=>K (.bool (decide (a<b)))
 | .leq=>K (.bool (decide (a<=b)))
 | .gtr=>K (.bool (decide (b<a)))
 | .geq=>K (.bool (decide (b<=a)))
 | .and=>K (.int k (bits .and k a b))
 | .or=>K (.int k (bits .or k a b))
 | .xor=>K (.int k (bits .xor k a b))
 | .andNot=>K (.int k (bits .andNot k a b))
 |_=>False
def ZH7 (op:BinOp) (x y:SV) (K:SV->Prop):Prop :=
 match x,y with
 | .int k a,.int c b=>match op with
  | .shl=>0<=b/\K (.int k (k.wrap (a*2^(min b.toNat k.bits))))
  | .shr=>0<=b/\K (.int k (a.fdiv (2^(min b.toNat k.bits))))
  |op=>if k=c then ZKY op k a b K else False
 | .str a,.str b=>match op with
  | .add=>(a.length:Int)+b.length<=9223372036854775807/\K (.str (a++b))
  | .eql=>K (.bool (decide (a=b)))
  | .neq=>K (.bool (!decide (a=b)))
  |_=>False
 |_,_=>False
section
variable {P:Program}
variable {α:Type}
theorem Zc3 [BEq α] [LawfulBEq α] [DecidableEq α] (a b:α):(a==b)=decide (a=b):=by
 by_cases h:a=b<;>simp[h]
theorem ZlI [BEq α] [LawfulBEq α] [DecidableEq α] (a b:α):(a != b) = !decide (a=b):=by
 by_cases h:a=b<;>simp[h]
variable (a:List UInt8)
theorem ZiA:(⟨a.toArray⟩:ByteArray).toList=a:=by
 exact ByteArray.toList_mk a
theorem bytes_append (b:List UInt8):(⟨a.toArray⟩:ByteArray)++⟨b.toArray⟩=⟨(a++b).toArray⟩:=by
 apply ByteArray.ext;simp
variable (E:Env)
theorem Zcz (k:IntKind) (n:Int):den E (.int k n) (.int k n):=by simp only[den]
variable (b:Bool)
theorem Zbf:den E (.bool b) (.bool b):=by simp only[den]
theorem Zwu:den E (.blit b) (.bool b):=by simp only[den]
theorem Znx (s:List UInt8):den E (.str s) (.string ⟨s.toArray⟩):=by simp only[den]
variable {E:Env} {op:BinOp} {K:SV->Prop}
theorem ZEM {k:IntKind} {a b:Int} (h:ZKY op k a b K) (t:TypeId) :
  ∃r s,(∀w,(binOp op t (.int k a) (.int k b)).run P w=.ok r w)/\den E s r/\K s:=by
 cases op
 case add=>exact⟨_,_,λw=>by simp only[binOp_add];exact rfl,Zcz ..,h⟩
 case sub=>exact⟨_,_,λw=>by simp only[binOp_sub];exact rfl,Zcz ..,h⟩
 case mul=>exact⟨_,_,λw=>by simp only[binOp_mul];exact rfl,Zcz ..,h⟩
 case quo=>exact⟨_,_,λw=>by rw[binOp_quo,Op.intDiv,Ue h.1];exact rfl,Zcz ..,h.2⟩
 case rem=>exact⟨_,_,λw=>by rw[binOp_rem,Op.intDiv,Ue h.1];exact rfl,Zcz ..,h.2⟩
 case eql=>exact⟨_,_,λw=>by rw[binOp_eql];exact rfl,Zbf ..,h⟩
 case neq=>exact⟨_,_,λw=>by rw[binOp_neq];exact rfl,Zbf ..,h⟩
 case lss=>exact⟨_,_,λw=>by rw[binOp_lss];exact rfl,Zbf ..,h⟩
 case leq=>exact⟨_,_,λw=>by rw[binOp_leq];exact rfl,Zbf ..,h⟩
 case gtr=>exact⟨_,_,λw=>by rw[binOp_gtr];exact rfl,Zbf ..,h⟩
 case geq=>exact⟨_,_,λw=>by rw[binOp_geq];exact rfl,Zbf ..,h⟩
 case and=>exact⟨_,_,λw=>by rw[binOp_and,intBits_and];exact rfl,Zcz ..,h⟩
 case or=>exact⟨_,_,λw=>by rw[binOp_or,intBits_or];exact rfl,Zcz ..,h⟩
 case xor=>exact⟨_,_,λw=>by rw[binOp_xor,intBits_xor];exact rfl,Zcz ..,h⟩
 case andNot=>exact⟨_,_,λw=>by rw[binOp_andNot,intBits_andNot];exact rfl,Zcz ..,h⟩
 all_goals exact h.elim
variable {x:SV} {u:Value}
theorem ZEh {y:SV} (h:ZH7 op x y K) {v:Value} (H:den E x u) (c:den E y v) (t:TypeId) (o O:Operand) :
  ∃r s,(∀w,((do eqGuard op t o O u v;binOp op t u v:Sem Value)).run P w=.ok r w)/\den E s r/\K s:=by
 unfold ZH7 at h;split at h
 ·rename_i k a i b
  simp only[den]at H c;subst H;subst c;have g:eqGuard op t o O (.int k a) (.int i b)=pure ():=eqGuard_at_int ..;rw[g,pure_bind];split at h
  ·have:¬b<0:=by omega
   exact⟨_,_,λw=>by rw[binOp_shl,Op.shift,Ue this];exact rfl,Zcz ..,h.2⟩
  ·have:¬b<0:=by omega
   exact⟨_,_,λw=>by rw[binOp_shr,Op.shift,Ue this];exact rfl,Zcz ..,h.2⟩
  ·split at h
   ·rename_i e;subst e
    exact ZEM h t
   ·exact h.elim
 ·rename_i a b
  simp only[den]at H c;subst H;subst c;have g:eqGuard op t o O (.string ⟨a.toArray⟩) (.string ⟨b.toArray⟩)=pure ():=eqGuard_at_string ..;rw[g,pure_bind];split at h
  ·have q:¬((((⟨a.toArray⟩:ByteArray).size+(⟨b.toArray⟩:ByteArray).size:Nat):Int)>IntKind.i64.max):=by
    have d:(⟨a.toArray⟩:ByteArray).size=a.length:=by simp[ByteArray.size]
    have f:(⟨b.toArray⟩:ByteArray).size=b.length:=by simp[ByteArray.size]
    rw[d,f,IntKind.max_i64];have:=h.1;omega
   exact⟨_,_,λw=>by simp only[binOp,Op.stringOp,Ue q,bytes_append];exact rfl,Znx ..,h.2⟩
  ·exact⟨_,_,λw=>by simp only[binOp,Op.stringOp,ZiA,Zc3,ZlI];exact rfl,Zbf ..,h⟩
  ·exact⟨_,_,λw=>by simp only[binOp,Op.stringOp,ZiA,Zc3,ZlI];exact rfl,Zbf ..,h⟩
  ·exact h.elim
 ·exact h.elim
def unK (op:UnOp) (x:SV) (K:SV->Prop):Prop :=
 match op,x with
 | .neg,.int k n=>K (.int k (k.wrap (0-n)))
 | .not,.bool b=>K (.bool (!b))
 | .not,.blit true=>K (.blit false)
 | .not,.blit false=>K (.blit true)
 |_,_=>False
theorem ZHj {op:UnOp} (h:unK op x K) (a:den E x u) :
  ∃r s,(∀w,(Op.unary op u).run P w=.ok r w)/\den E s r/\K s:=by
 unfold unK at h;split at h
 ·simp only[den]at a;subst a;exact⟨_,_,λ_=>rfl,Zcz ..,h⟩
 ·simp only[den]at a;subst a;exact⟨_,_,λ_=>rfl,Zbf ..,h⟩
 ·simp only[den]at a;subst a;exact⟨_,_,λ_=>rfl,Zwu ..,h⟩
 ·simp only[den]at a;subst a;exact⟨_,_,λ_=>rfl,Zwu ..,h⟩
 ·exact h.elim
end
section
variable {P:Program}
variable {T:TypeId} {t:TI}
theorem ZeP.info' (h:ZeP P T t):∃i,P.info? T=some i/\i.size=t.size/\i.bytes=t.bytes/\i.zero=some t.zero:=by
 have:=h.info;cases l:P.info? T with
 |none=>simp[l]at this
 |some i=>simp[l]at this;exact⟨i,rfl,this.1,this.2.1,this.2.2⟩
theorem ZeP.get (h:ZeP P T t):∃d,P.underlying T=some d/\ZyG d=t.kind:=by
 have:=h.kind;cases N:P.underlying T with
 |none=>simp[N]at this
 |some d=>exact⟨d,rfl,by simpa[N]using this⟩
theorem ZeP.slice (h:ZeP P T t) (H:t.kind=.sl) :
  P.underlying T=some (.slice t.elem)/\(P.underlying t.elem).map ZjE=some t.eagg/\∃i,P.info? t.elem=some i/\i.size=t.esize/\i.bytes=t.ebytes/\i.zero=some t.ezero:=by
 obtain⟨d,N,u⟩:=h.get;rw[H]at u;obtain⟨e,rfl⟩:∃e,d=.slice e:=by cases d<;>simp[ZyG]at u;exact⟨_,rfl⟩
 have:=h.elem;rw[N,H]at this;simp only[Option.some.injEq,Prod.mk.injEq]at this;obtain⟨a,f,g⟩:=this;subst a;refine⟨N,g,?_⟩;cases l:P.info? t.elem with
 |none=>simp[l]at f
 |some i=>simp[l]at f;exact⟨i,rfl,f.1,f.2.1,f.2.2⟩
theorem ZeP.array (h:ZeP P T t) {n:Nat} (H:t.kind=.arr n) :
  P.underlying T=some (.array n t.elem)/\(P.underlying t.elem).map ZjE=some t.eagg/\∃i,P.info? t.elem=some i/\i.size=t.esize/\i.bytes=t.ebytes/\i.zero=some t.ezero:=by
 obtain⟨d,N,u⟩:=h.get;rw[H]at u;obtain⟨e,rfl⟩:∃e,d=.array n e:=by cases d<;>simp[ZyG]at u;subst u;exact⟨_,rfl⟩
 have:=h.elem;rw[N,H]at this;simp only[Option.some.injEq,Prod.mk.injEq]at this;obtain⟨a,f,g⟩:=this;subst a;refine⟨N,g,?_⟩;cases l:P.info? t.elem with
 |none=>simp[l]at f
 |some i=>simp[l]at f;exact⟨i,rfl,f.1,f.2.1,f.2.2⟩
theorem ZuC (h:ZeP P T t) (w:World):(isAgg T).run P w=.ok t.kind.agg w:=by
 obtain⟨d,N,H⟩:=h.get;unfold isAgg;rw[Sem.run_bind,run_underlying N,<-H];simp only[Result.andThen_ok];cases d<;>rfl
theorem run_sizeOf {i:TypeInfo} (h:P.info? T=some i) (w:World):(sizeOf T).run P w=.ok i.size w:=by
 simp[sizeOf,typeInfo,h]
theorem Zg0 (h:ZeP P T t) (w:World) (p:Addr) (vs:List Value) (s:∀j u,vs[j]?=some u->w.cell? (p.add j)=some u)
  (q:t.kind.agg=true->vs.length=t.size) :
  (t.kind.agg=true->(loadVar T p).run P w=.ok (.agg vs.toArray) w)/\
  (t.kind.agg=false->∀u,vs[0]?=some u->(loadVar T p).run P w=.ok u w):=by
 obtain⟨i,l,H,_⟩:=h.info';constructor
 ·intro n
  unfold loadVar;rw[Sem.run_bind,ZuC h,n];simp only[Result.andThen_ok,Ui];rw[Sem.run_bind,run_sizeOf l,Result.andThen_ok,H,<-q n,Sem.run_bind,run_loadCells_list w p vs s];rfl
 ·intro n u a
  unfold loadVar;rw[Sem.run_bind,ZuC h,n];have:=s 0 u a;simp only[Addr.add,Ui]at this;simp[this]
def JW (t:TI) (cs:List SV) (K:SV->Prop):Prop :=
 if t.kind.agg=true then Zrl cs t.size λl=>if l.length=t.size then K (.agg l)else False
 else match cs with
  |c::_=>K c
  |[]=>False
variable {E:Env} {K:SV->Prop}
theorem ZjV (h:ZeP P T t) (w:World) (p:Addr) {cs:List SV} (H:JW t cs K)
  (vs:List Value) (N:Yu E cs vs) (d:∀j u,vs[j]?=some u->w.cell? (p.add j)=some u) :
  ∃v s,ZBR P w (loadVar T p) v/\den E s v/\K s:=by
 unfold JW at H;split at H
 ·rename_i n
  rw[Zke]at H;split at H
  ·rename_i q
   have b:=Zh8 cs vs N t.size;have g:=Xo _ _ b;have f:=λw' (hst:ZtA w w')=>Zg0 h w' p (vs.take t.size) (λj u a=>hst _ _ (d j u (by
    rw[UB]at a;split at a
    ·exact a
    ·cases a))) (λ_=>by rw[<-g];exact q)
   exact⟨_,.agg _,λw' hst=>(f w' hst).1 n,by simp only[den];exact⟨_,rfl,b⟩,H⟩
  ·exact H.elim
 ·rename_i n
  split at H
  ·rename_i c r
   match vs,N with
   |v::vs,N =>
    simp only[Yu]at N;have f:=λw' (hst:ZtA w w')=>Zg0 h w' p (v::vs) (λj u a=>hst _ _ (d j u a)) (λe=>absurd e n);exact⟨v,c,λw' hst=>(f w' hst).2 (by simpa using n) v rfl,N.1,H⟩
   |[],N=>simp[Yu]at N
  ·exact H.elim
theorem Zmy {w:World} {b:Nat} {cs:Array Value} {fr:Nat×Nat} (r:w.heap[b]?=some (.cells cs T fr)) (o:Nat) :
  ∀j u,(cs.toList.drop o)[j]?=some u->w.cell? ((⟨b,o,none⟩:Addr).add j)=some u:=by
 intro j u a;rw[add_eq,cell_of_row w b (o+j) cs T fr r];simpa using a
def Zx1 (T:TI) (s:SV) (H:List Entry) (K:SV->Prop):Prop :=
 match s with
 | .ptr I o=>ZiG H I λe=>match e with
  | .box cells=>ZkI cells o λcs=>JW T cs K
  | .fbx cells=>ZkI cells o λcs=>JW T cs K
  |_=>False
 | .fptr cs=>JW T cs K
 | .oep I z i o=>ZiG H I λe=>match e with
  | .arr _ t d=>t.size=z/\Zlu d i λx=>JE t x λcells=>ZkI cells o λcs=>JW T cs K
  | .frz t d=>t.size=z/\Zlu d i λx=>JE t x λcells=>ZkI cells o λcs=>JW T cs K
  |_=>False
 |_=>False
theorem ZwV {B:Base} {H:List Entry} (O:Inv B E H) {W:TI} (h:ZeP P T W) {s:SV} {v:Value} (q:den E s v) (k:Zx1 W s H K) :
  ∃u r,ZBR P E.w (Instr.loadAt T v) u/\den E r u/\K r:=by
 have y:∀(p:Addr) (cs:List SV) (vs:List Value),v=.pointer (some p)->JW W cs K->Yu E cs vs->(∀j u,vs[j]?=some u->E.w.cell? (p.add j)=some u)->
   ∃u r,ZBR P E.w (Instr.loadAt T v) u/\den E r u/\K r:=by
  intro p cs vs hv k R D;obtain⟨u,r,m,l,g⟩:=ZjV h E.w p k vs R D;subst hv;exact⟨u,r,λw' hst=>by simp only[Instr.loadAt,Instr.sureAddr,pure_bind];exact m w' hst,l,g⟩
 unfold Zx1 at k;split at k
 ·rename_i M o
  obtain⟨e,J,k⟩:=XB H k;split at k
  ·rename_i cells
   rw[ZdY]at k;simp only[den]at q;obtain⟨b,m,rfl⟩:=q;obtain⟨X,cs,T',f,l,g⟩:=O.ent M _ J;have:=m.symm.trans f;simp at this;subst this;exact y _ _ (cs.toList.drop o) rfl k (Zbg _ _ g o) (Zmy l o)
  ·rename_i cells
   rw[ZdY]at k;simp only[den]at q;obtain⟨b,m,rfl⟩:=q;obtain⟨X,cs,T',f,_,l,g⟩:=O.ent M _ J;have:=m.symm.trans f;simp at this;subst this;exact y _ _ (cs.toList.drop o) rfl k (Zbg _ _ g o) (Zmy l o)
  ·exact k.elim
 ·rename_i cs
  simp only[den]at q;obtain⟨p,vs,rfl,hp,_,D,R⟩:=q;exact y p cs vs rfl k R D
 ·rename_i M sz i o
  obtain⟨e,J,k⟩:=XB H k;simp only[den]at q;obtain⟨b,N,n,c,m,rfl⟩:=q;split at k
  ·rename_i et t d
   obtain⟨A,S,L,k⟩:=k;have z:i.toNat<d.length:=by omega
   obtain⟨x,I⟩:∃x,d[i.toNat]?=some x:=⟨_,Ub z⟩;have k:=k x I;simp only[QS,ZdY]at k;obtain⟨v',xs,f,l,g⟩:=O.ent M _ J;have:=m.symm.trans f;simp at this;subst this;obtain⟨vs,U,F⟩:=Zjn (λd vs=>QD t d vs) _ _ g _ x I;have Q:=l.ZiY rfl;refine y _ _ (vs.drop o) rfl k (Zbg _ _ (Qg t x vs U) o) (λj u V=>?_);have C:vs[o+j]?=some u:=by simpa using V
   have:=Q _ u (F _ _ C);rw[add_eq]at this ⊢;rw[<-A];rw[show N+(i.toNat*t.size+o)+j=N+(i.toNat*t.size+(o+j)) by omega];exact this
  ·rename_i t d
   obtain⟨A,S,L,k⟩:=k;have z:i.toNat<d.length:=by omega
   obtain⟨x,I⟩:∃x,d[i.toNat]?=some x:=⟨_,Ub z⟩;have k:=k x I;simp only[QS,ZdY]at k;obtain⟨v',f,l⟩:=O.ent M _ J;have:=m.symm.trans f;simp at this;subst this;obtain⟨a,Y,G,_,_,g⟩:=l;simp at G;obtain⟨G,e2,e3⟩:=G;rcases g with g|⟨p,xs,Z,hp,_,Q,g⟩
   ·subst g;simp at I
   ·rw[Z]at G;simp at G;subst G
    obtain⟨vs,U,F⟩:=Zjn (λd vs=>QD t d vs) _ _ g _ x I;refine y _ _ (vs.drop o) rfl k (Zbg _ _ (Qg t x vs U) o) (λj u V=>?_);have C:vs[o+j]?=some u:=by simpa using V
    have:=Q _ u (F _ _ C);rw[add_eq]at this ⊢;rw[<-A];rw[show N+(i.toNat*t.size+o)+j=N+(i.toNat*t.size+(o+j)) by omega];exact this
  ·exact k.elim
 ·exact k.elim
end
section
variable {P:Program}
def ZGg:List (Nat×Nat×Bool)->Nat->(Nat->Nat->Bool->Prop)->Prop
 |[],_,_=>False
 |(o,s,g)::_,0,K=>K o s g
 |_::r,n+1,K=>ZGg r n K
theorem ZsV:∀(l:List (Nat×Nat×Bool)) {n:Nat} {K:Nat->Nat->Bool->Prop},ZGg l n K->∃o s g,l[n]?=some (o,s,g)/\K o s g
 |[],_,_,h=>h.elim
 |(o,s,g)::_,0,K,h=>⟨o,s,g,rfl,h⟩
 |_::r,n+1,K,h=>by simpa using ZsV r (n:=n) h
variable {T:TypeId} {t:TI} {f:Nat}
theorem ZeP.field (h:ZeP P T t) (n:t.kind=.st) {o s:Nat} {g:Bool} (m:t.flds[f]?=some (o,s,g)) :
  ∃a,P.underlying T=some (.struct a)/\∃F i d,a[f]?=some F/\F.offset=o/\P.info? F.type=some i/\i.size=s/\P.underlying F.type=some d/\ZjE d=g:=by
 obtain⟨D,N,u⟩:=h.get;rw[n]at u;obtain⟨a,rfl⟩:∃a,D=.struct a:=by cases D<;>simp[ZyG]at u;exact⟨_,rfl⟩
 have:=h.flds;rw[N]at this;have b:=UN (·[f]?) this;simp only[UL,m,UV,KP]at b;cases H:a[f]? with
 |none=>simp[H]at b
 |some F =>
  simp only[H,UV,Option.some.injEq,Prod.mk.injEq]at b;obtain⟨k,e,j⟩:=b;cases l:P.info? F.type with
  |none=>simp[l]at e
  |some i =>
   cases c:P.underlying F.type with
   |none=>simp[c]at j
   |some d=>exact⟨a,N,F,i,d,H,k,l,by simpa[l]using e,c,by simpa[c]using j⟩
def ZnD (t:TI) (s:SV) (f:Nat) (K:SV->Prop):Prop :=
 if t.kind.ZHP=true then ZGg t.flds f λo z _=>if z=0 then False else
  match s with
  | .ptr I O=>K (.ptr I (O+o))
  | .oep I e i O=>K (.oep I e i (O+o))
  | .fptr cs=>ZkI cs o λC=>K (.fptr C)
  |_=>False
 else False
variable {E:Env} {s:SV} {v:Value} {K:SV->Prop}
theorem Zsp (h:ZeP P T t) (q:den E s v) (H:ZnD t s f K) :
  ∃u r,ZqZ P (Instr.fieldAt T v f) u/\den E r u/\K r:=by
 unfold ZnD at H;split at H
 ·rename_i hst
  obtain⟨o,U,g,G,H⟩:=ZsV _ H;split at H
  ·exact H.elim
  ·rename_i A
   have N:t.kind=.st:=by cases e:t.kind<;>simp[TK.ZHP,e]at hst;rfl
   obtain⟨R,x,F,i,d,l,J,I,w,_,_⟩:=h.field N G;have y:∀(p:Addr),v=.pointer (some p)->ZqZ P (Instr.fieldAt T v f) (.pointer (some (p.add o))):=by
    intro p L w';subst L;have m:¬i.size=0:=by rw[w];exact A
    simp only[Instr.fieldAt,Sem.run_bind,run_underlying x,Result.andThen_ok,l,Instr.sureAddr,Sem.run_pure,fieldPlace,run_sizeOf I,m,Uh,J]
   split at H
   ·rename_i M O
    simp only[den]at q;obtain⟨b,a,rfl⟩:=q;refine⟨_,_,y _ rfl,?_,H⟩;simp only[den];exact⟨b,a,by rw[add_eq]⟩
   ·rename_i M Q S O
    simp only[den]at q;obtain⟨b,C,n,c,a,rfl⟩:=q;refine⟨_,_,y _ rfl,?_,H⟩;simp only[den];exact⟨b,C,n,c,a,by rw[add_eq,Nat.add_assoc,Nat.add_assoc]⟩
   ·rename_i cs
    simp only[den]at q;obtain⟨p,vs,rfl,B,D,z,k⟩:=q;rw[ZdY]at H;refine⟨_,_,y _ rfl,?_,H⟩;simp only[den];refine⟨p.add o,vs.drop o,rfl,Zr6 _ _ B,by rw[add_block];exact D,λj u x=>?_,Zbg _ _ k o⟩;rw[add_add _ _ _ B];exact z _ u (by simpa using x)
   ·exact H.elim
 ·exact H.elim
def Zzx (t:TI) (s:SV) (f:Nat) (K:SV->Prop):Prop :=
 if t.kind.ZHP=true then ZGg t.flds f λo z g =>
  match s with
  | .agg cs=>ZkI cs o λC=>if g=true then Zrl C z λl=>if l.length=z then K (.agg l)else False
   else match C with
    |c::_=>K c
    |[]=>False
  |_=>False
 else False
theorem Zzy {m:TI} (h:ZeP P T m) (G:den E s v) (k:Zzx m s f K) :
  ∃u r,ZqZ P (Instr.field T v f) u/\den E r u/\K r:=by
 unfold Zzx at k;split at k
 ·rename_i hst
  obtain⟨o,S,g,I,k⟩:=ZsV _ k;have N:m.kind=.st:=by cases q:m.kind<;>simp[TK.ZHP,q]at hst;rfl
  obtain⟨O,M,F,i,d,z,L,J,B,C,p⟩:=h.field N I;split at k
  ·rename_i cs
   simp only[den] at G;obtain ⟨vs,rfl,x⟩:=G;rw[ZdY] at k;have H:=Zbg _ _ x o;have t:∀ w,(part F.type vs.toArray F.offset).run P w=(isAgg F.type >>= λb=>if b then (do pure (.agg (vs.toArray.extract o (o+(<-sizeOf F.type))))) else match vs.toArray[o]? with
     |some v=>pure v
     | none=>stuck "part: no such cell").run P w:=by intro w;rw[part,L];rfl
   have e:∀w,(isAgg F.type).run P w=.ok g w:=by
    intro w;unfold isAgg;rw[Sem.run_bind,run_underlying C];simp only[Result.andThen_ok,<-p];cases d<;>rfl
   have l:∀w,(Instr.field T (.agg vs.toArray) f).run P w=(part F.type vs.toArray F.offset).run P w:=by
    intro w;simp only[Instr.field,Sem.run_bind,run_underlying M,Result.andThen_ok,z,asAgg,Sem.run_pure]
   have n:∀ w,(Instr.field T (.agg vs.toArray) f).run P w=(if g then (do pure (.agg (vs.toArray.extract o (o+(<-sizeOf F.type))))) else match vs.toArray[o]? with
     |some v=>pure v
     | none=>stuck "part: no such cell" : Sem Value).run P w:=by
    intro w;rw[l,t,Sem.run_bind,e,Result.andThen_ok]
   split at k
   ·rename_i A
    rw[Zke]at k;split at k
    ·rename_i Q
     have j:=Zh8 _ _ H S;refine⟨.agg ((vs.drop o).take S).toArray,_,?_,by simp only[den];exact⟨_,rfl,j⟩,k⟩;intro w';rw[n,Uc A,Sem.run_bind,run_sizeOf J,Result.andThen_ok,B];simp[List.extract_eq_take_drop]
    ·exact k.elim
   ·rename_i A
    split at k
    ·rename_i c r y
     rw[y]at H;cases a:vs.drop o with
     |nil=>rw[a]at H;simp[Yu]at H
     |cons v0 vr =>
      rw[a]at H;simp only[Yu]at H;refine⟨v0,c,?_,H.1,k⟩;have D:vs[o]?=some v0:=by
       have:=UN (·[0]?) a;simpa using this
      intro w';rw[n,Ue A];simp[D]
    ·exact k.elim
  ·exact k.elim
 ·exact k.elim
def Znw:Operand->Option Nat
 | .const (.int _ n)=>match n with
  | .ofNat m=>some m
  |_=>none
 |_=>none
def Zv3 (I o s:Nat):Nat->Nat->Int->(SV->Prop)->Prop
 |0,_,_,_=>True
 |n+1,j,i,K=>(i=(j:Int)->K (.ptr I (o+j*s)))/\Zv3 I o s n (j+1) i K
theorem ZrX (I o s:Nat):∀(n j:Nat) (i:Int) (K:SV->Prop),Zv3 I o s n j i K->(j:Int)<=i->i<(j+n:Nat)->K (.ptr I (o+i.toNat*s))
 |0,j,i,K,_,d,f=>by omega
 |n+1,j,i,K,h,d,f=>by
  by_cases e:i=(j:Int)
  ·have:=h.1 e;rw[e,Up];exact this
  ·exact ZrX I o s n (j+1) i K h.2 (by omega) (by omega)
@[irreducible] def Dead:Prop:=False
theorem Dead.no (h:Dead):False:=by unfold Dead at h;exact h
def Zlh (T:TI) (s S:SV) (a:Operand) (H:List Entry) (K:SV->Prop):Prop :=
 match S with
 | .int _ i=>match T.kind with
  | .sl=>match s with
   | .sl t d=>if t.size=T.esize then Zlu d i λx=>JE t x λcells=>K (.fptr cells)else False
   | .own I=>ZiG H I λe=>match e with
    | .arr _ t d=>if t.size=T.esize then Zlu d i λ_=>K (.oep I t.size i 0)else False
    | .frz t d=>if t.size=T.esize then Zlu d i λx=>JE t x λcells=>K (.fptr cells)else False
    | .darr _ e d _=>if e.ty.size=T.esize then Zlu d i λ_=>K (.oep I e.ty.size i 0)else False
    | .hole _ e d _ _ _=>if e.ty.size=T.esize then Zlu d i λ_=>K (.oep I e.ty.size i 0)else False
    | .spl _ e d _ _=>if e.ty.size=T.esize then Zlu d i λ_=>K (.oep I e.ty.size i 0)else False
    | .hsp _ e d _ _ _=>if e.ty.size=T.esize then Zlu d i λ_=>K (.oep I e.ty.size i 0)else False
    |_=>False
   | .nsl=>Dead
   |_=>False
  | .arr n=>match s with
   | .ptr I o=>match Znw a with
    |some j=>if j<n then K (.ptr I (o+j*T.esize))else False
    |none=>0<=i/\i<(n:Int)/\Zv3 I o T.esize n 0 i K
   |_=>False
  |_=>False
 |_=>False
variable {i:TypeInfo}
theorem run_indexAt {e:TypeId} (a:P.underlying T=some (.slice e)) (l:P.info? e=some i) (w:World) (p:Addr) (len c:Nat) (k:IntKind) (n:Int) (m:0<=n) (d:n<(len:Int)) :
  (Instr.indexAt T (.slice (some p) len c) (.int k n)).run P w=.ok (.pointer (some (p.add (n.toNat*i.size)))) w:=by
 have q:(0<=n/\n<(len:Int)):=⟨m,d⟩;simp[Instr.indexAt,asIntOf,run_underlying a,q,run_sizeOf l]
theorem Zqt {e:TypeId} {m:Nat} (a:P.underlying T=some (.array m e)) (l:P.info? e=some i) (w:World) (p:Addr) (k:IntKind) (n:Int) (h:0<=n) (d:n<(m:Int)) :
  (Instr.indexAt T (.pointer (some p)) (.int k n)).run P w=.ok (.pointer (some (p.add (n.toNat*i.size)))) w:=by
 have q:(0<=n/\n<(m:Int)):=⟨h,d⟩;simp[Instr.indexAt,asIntOf,run_underlying a,q,run_sizeOf l,Instr.sureAddr]
theorem Zvq {t:Ty} {d:List t.den} (h:rep E.S E.w (.sl t) d [v]) {i:Nat} {x:t.den} (l:d[i]?=some x) :
  ∃p c vs,v=.slice (some p) d.length c/\p.spot=none/\E.S p.block/\rep E.S E.w t x vs/\∀j u,vs[j]?=some u->E.w.cell? ((p.add (i*t.size)).add j)=some u:=by
 obtain⟨a,c,e,_,_,g⟩:=h;simp at e;rcases g with g|⟨p,xs,rfl,H,s,q,g⟩
 ·subst g;simp at l
 ·obtain⟨vs,r,F⟩:=Zjn (λd vs=>QD t d vs) _ _ g _ x l
  refine⟨p,c,vs,e,H,s,r,λj u b=>?_⟩;rw[add_add _ _ _ H];exact q _ u (F _ _ b)
theorem ZjR {B:Base} {H:List Entry} (G:Inv B E H) {Q:TI} (h:ZeP P T Q) {si:SV} {vi:Value} (z:den E s v) (N:den E si vi) {ix:Operand} (a:Zlh Q s si ix H K) (a0:∀j,Znw ix=some j->∀k i,si=.int k i->i=(j:Int)) :
  ∃u r,ZqZ P (Instr.indexAt T v vi) u/\den E r u/\K r:=by
 unfold Zlh at a;split at a
 ·rename_i k i
  simp only[den]at N;subst N;split at a
  ·rename_i Y
   obtain⟨D,_,a2,C,A,_,_⟩:=h.slice Y;have F:∀(t:Ty) (d:List t.den),t.size=Q.esize->rep E.S E.w (.sl t) d [v]->Zlu d i (λx=>JE t x λcells=>K (.fptr cells))->
     ∃u r,ZqZ P (Instr.indexAt T v (.int k i)) u/\den E r u/\K r:=by
    intro t d q hr ⟨m,y,f⟩;obtain⟨x,hx⟩:∃x,d[i.toNat]?=some x:=⟨_,Ub (by omega)⟩;have f:=f x hx;simp only[QS]at f;obtain⟨p,c,vs,rfl,hp,hS,a1,J⟩:=Zvq hr hx;refine⟨_,_,λw=>run_indexAt D C w p _ c k i m y,?_,f⟩;simp only[den];rw[A,<-q];exact⟨_,vs,rfl,Zr6 _ _ hp,by rw[add_block];exact hS,J,Qg t x vs a1⟩
   split at a
   ·rename_i t d
    split at a
    ·rename_i q
     exact F t d q (by simpa only[den]using z) a
    ·exact a.elim
   ·rename_i I
    obtain⟨en,L,a⟩:=XB H a;simp only[den]at z;split at a
    ·rename_i R t d
     split at a
     ·rename_i q
      obtain⟨m,y,a⟩:=a;have a:=a _ (Ub (show i.toNat<d.length by omega));obtain⟨v',xs,l,f,U⟩:=G.ent I _ L;have:=z.1.symm.trans l;simp at this;subst this;rcases f.2 with⟨rfl,W⟩|⟨g,c,cur,o,rfl,_,V,J,_⟩
      ·omega
      ·refine⟨_,_,λw=>run_indexAt D C w _ _ c k i m y,?_,a⟩
       simp only[den];exact⟨g,o,_,c,l,by rw[add_eq,A,q];simp⟩
     ·exact a.elim
    ·rename_i t d
     split at a
     ·rename_i q
      obtain⟨v',l,f⟩:=G.ent I _ L;have:=z.1.symm.trans l;simp at this;subst this;exact F t d q f a
     ·exact a.elim
    ·rename_i R e d X
     split at a
     ·rename_i q
      obtain⟨m,y,a⟩:=a;have a:=a _ (Ub (show i.toNat<d.length by omega));obtain⟨v',xs,a3,l,f,U⟩:=G.ent I _ L;have:=z.1.symm.trans l;simp at this;subst this;rcases f.2 with⟨rfl,W⟩|⟨g,c,cur,o,rfl,_,V,J,_⟩
      ·omega
      ·refine⟨_,_,λw=>run_indexAt D C w _ _ c k i m y,?_,a⟩
       simp only[den];exact⟨g,o,_,c,l,by rw[add_eq,A,q];simp⟩
     ·exact a.elim
    ·rename_i R e d j cs X
     split at a
     ·rename_i q
      obtain⟨m,y,a⟩:=a;have a:=a _ (Ub (show i.toNat<d.length by omega));obtain⟨v',xs,x1,vx,x2,f1,f2,l,f,U⟩:=G.ent I _ L;have:=z.1.symm.trans l;simp at this;subst this;rcases f.2 with⟨rfl,W⟩|⟨g,c,cur,o,rfl,_,V,J,_⟩
      ·omega
      ·refine⟨_,_,λw=>run_indexAt D C w _ _ c k i m y,?_,a⟩
       simp only[den];exact⟨g,o,_,c,l,by rw[add_eq,A,q];simp⟩
     ·exact a.elim
    ·rename_i R e d n X
     split at a
     ·rename_i q
      obtain⟨m,y,a⟩:=a;have a:=a _ (Ub (show i.toNat<d.length by omega));obtain⟨v',l,⟨xs,x1,x2,f1,f,U⟩,_⟩:=G.ent I _ L;have:=z.1.symm.trans l;simp at this;subst this;rcases f.2 with⟨rfl,W⟩|⟨g,c,cur,o,rfl,_,V,J,_⟩
      ·omega
      ·refine⟨_,_,λw=>run_indexAt D C w _ _ c k i m y,?_,a⟩
       simp only[den];exact⟨g,o,_,c,l,by rw[add_eq,A,q];simp⟩
     ·exact a.elim
    ·rename_i R e d j cs X
     split at a
     ·rename_i q
      obtain⟨m,y,a⟩:=a;have a:=a _ (Ub (show i.toNat<d.length by omega));obtain⟨v',xs,x1,vx,x2,f1,l,f,U⟩:=G.ent I _ L;have:=z.1.symm.trans l;simp at this;subst this;rcases f.2 with⟨rfl,W⟩|⟨g,c,cur,o,rfl,_,V,J,_⟩
      ·omega
      ·refine⟨_,_,λw=>run_indexAt D C w _ _ c k i m y,?_,a⟩
       simp only[den];exact⟨g,o,_,c,l,by rw[add_eq,A,q];simp⟩
     ·exact a.elim
    ·exact a.elim
   ·exact a.no.elim
   ·exact a.elim
  ·rename_i n Y
   obtain⟨D,_,a2,C,A,_,_⟩:=h.array Y;split at a
   ·rename_i I O
    simp only[den]at z;obtain⟨b,y,rfl⟩:=z;have M:0<=i->i<(n:Int)->K (.ptr I (O+i.toNat*Q.esize))->∃u r,ZqZ P (Instr.indexAt T (.pointer (some ⟨b,O,none⟩)) (.int k i)) u/\den E r u/\K r:=by
     intro m f a;refine⟨_,_,λw=>Zqt D C w _ k i m f,?_,a⟩;simp only[den];exact⟨b,y,by rw[add_eq,A]⟩
    split at a
    ·rename_i j hj
     split at a
     ·rename_i a4
      have Z:=a0 j hj k i rfl;subst Z;exact M (by omega) (by omega) (by simpa using a)
     ·exact a.elim
    ·obtain⟨m,f,a⟩:=a
     exact M m f (ZrX I O Q.esize n 0 i K a (by omega) (by omega))
   ·exact a.elim
  ·exact a.elim
 ·exact a.elim
end
def ZEP (a b:SV) (K:Bool->Prop):Prop :=
 match a,b with
 | .int k x,.int c y=>if k=c then K (decide (x=y))else False
 |_,_=>False
def ZEQ (a b:SV) (K:Bool->Prop):Prop :=
 match a,b with
 | .str x,.str y=>K (decide (x=y))
 |_,_=>False
def ZCC (a b:SV) (K:Bool->Prop):Prop :=
 match a,b with
 | .bool x,.bool y=>K (x==y)
 | .bool x,.blit true=>K x
 | .blit true,.bool x=>K x
 | .bool x,.blit false=>K (!x)
 | .blit false,.bool x=>K (!x)
 | .blit x,.blit y=>K (x==y)
 |_,_=>False
def eqF:EqD->List SV->List SV->(Bool->Prop)->Prop
 | .nil,_,_,K=>K true
 | .int _ o r,xs,y,K=>ZoP xs o λa=>ZoP y o λb=>ZEP a b λp=>match r with
  | .nil=>K p
  |r=>eqF r xs y λq=>K (p&&q)
 | .bool o r,xs,y,K=>ZoP xs o λa=>ZoP y o λb=>ZCC a b λp=>match r with
  | .nil=>K p
  |r=>eqF r xs y λq=>K (p&&q)
 | .str o r,xs,y,K=>ZoP xs o λa=>ZoP y o λb=>ZEQ a b λp=>match r with
  | .nil=>K p
  |r=>eqF r xs y λq=>K (p&&q)
 | .st o z s r,xs,y,K=>ZkI xs o λx=>Zrl x z λX=>ZkI y o λY=>Zrl Y z λc=>eqF s X c λp=>match r with
  | .nil=>K p
  |r=>eqF r xs y λq=>K (p&&q)
def EqD.depth:EqD->Nat
 | .nil=>0
 | .int _ _ r=>max 1 r.depth
 | .bool _ r=>max 1 r.depth
 | .str _ r=>max 1 r.depth
 | .st _ _ s r=>max (s.depth+1) r.depth
def eqK (op:BinOp) (t:TI) (x y:SV) (K:SV->Prop):Prop :=
 match x,y with
 | .agg xs,.agg s=>if t.eqd.isNil=true then False else if t.eqd.depth<=1000 then eqF t.eqd xs s λp=>match op with
  | .eql=>K (.bool p)
  | .neq=>K (.bool (!p))
  |_=>False else False
 |x,y=>match t.kind with
  | .bool=>ZCC x y λp=>match op with
   | .eql=>K (.bool p)
   | .neq=>K (.bool (!p))
   |_=>False
  |_=>False
section
variable {P:Program}
variable {t:TypeId} {d:TypeDesc} {o:Nat} {v:Value}
theorem ZfX (N:P.underlying t=some d) (n:ZjE d=false) {cs:Array Value} (a:cs[o]?=some v) (w:World):(part t cs o).run P w=.ok v w:=by
 have e:(isAgg t).run P w=.ok false w:=by
  unfold isAgg;rw[Sem.run_bind,run_underlying N];simp only[Result.andThen_ok,<-n];cases d<;>rfl
 rw[part,Sem.run_bind,e,Result.andThen_ok];simp[a]
theorem Zxj (N:P.underlying t=some d) (n:ZjE d=true) {z:Nat} (q:(P.info? t).map (·.size)=some z) {u:List Value} (w:World) :
  (part t u.toArray o).run P w=.ok (.agg ((u.drop o).take z).toArray) w:=by
 have e:(isAgg t).run P w=.ok true w:=by
  unfold isAgg;rw[Sem.run_bind,run_underlying N];simp only[Result.andThen_ok,<-n];cases d<;>rfl
 obtain⟨i,l,A⟩:=Km.1 q;rw[part,Sem.run_bind,e,Result.andThen_ok,Uc rfl,Sem.run_bind,run_sizeOf l,Result.andThen_ok,A];simp[List.extract_eq_take_drop]
variable {k:IntKind}
theorem ZkP (h:ZwP k (P.underlying t)=true):P.underlying t=some (.int k):=by
 unfold ZwP at h;split at h
 ·rename_i K a;rw[a];simp at h;rw[h]
 ·cases h
theorem ZnL (h:ZsF (P.underlying t)=true):P.underlying t=some .bool:=by
 unfold ZsF at h;split at h
 ·rename_i a;exact a
 ·cases h
theorem Zp2 (h:ZwQ (P.underlying t)=true):P.underlying t=some .string:=by
 unfold ZwQ at h;split at h
 ·rename_i a;exact a
 ·cases h
variable {E:Env} {a b:SV} {u:Value} {K:Bool->Prop}
theorem ZCD (h:den E a u) (c:den E b v) (H:ZEP a b K) (r:P.underlying t=some (.int k)) :
  ∃p,K p/\∀m w,(Op.equalIn (m+1) t u v).run P w=.ok p w:=by
 unfold ZEP at H;split at H
 ·rename_i d x f y
  simp only[den]at h c;subst h;subst c;split at H
  ·rename_i e;subst e
   exact⟨_,H,λm w=>by rw[run_equalIn_int w m t d k x y r,Zc3]⟩
  ·exact H.elim
 ·exact H.elim
theorem ZCE (h:den E a u) (c:den E b v) (H:ZEQ a b K) (r:P.underlying t=some .string) :
  ∃p,K p/\∀m w,(Op.equalIn (m+1) t u v).run P w=.ok p w:=by
 unfold ZEQ at H;split at H
 ·simp only[den]at h c;subst h;subst c
  exact⟨_,H,λm w=>by rw[run_equalIn_string w m t _ _ r,ZiA,ZiA,Zc3]⟩
 ·exact H.elim
theorem ZwT (h:den E a u) (c:den E b v) (H:ZCC a b K) :
  ∃x y,u=.bool x/\v=.bool y/\K (x==y):=by
 unfold ZCC at H;split at H<;>(try simp only[den]at h c)
 ·exact⟨_,_,h,c,H⟩
 ·exact⟨_,_,h,c,by simpa using H⟩
 ·exact⟨_,_,h,c,by simpa using H⟩
 ·exact⟨_,_,h,c,by simpa using H⟩
 ·exact⟨_,_,h,c,by simpa using H⟩
 ·exact⟨_,_,h,c,H⟩
 ·exact H.elim
variable {f:Field} {l:List Field} {p:Bool}
theorem ZfF {n:Nat} {xs y:Array Value} (c:f.name≠ "_") {a b:Value} {q:Bool} {w:World} (h:(part f.type xs f.offset).run P w=.ok a w)
  (H:(part f.type y f.offset).run P w=.ok b w) (m:(Op.equalIn n f.type a b).run P w=.ok p w) (F:(Op.eqFields n xs y l).run P w=.ok q w) :
  (Op.eqFields n xs y (f::l)).run P w=.ok (p&&q) w:=by
 rw[Op.eqFields,Uc c,Sem.run_bind,h,Result.andThen_ok,Sem.run_bind,H,Result.andThen_ok,Sem.run_bind,m,Result.andThen_ok];cases p
 ·simp
 ·simp[F]
theorem ZwC {r:EqD} (a:r.fits P l=true) {xs y:List SV} {u vs:List Value} (H:match (generalizing:=false) r with
  | .nil=>K p
  | r=>eqF r xs y λq=>K (p&&q))
  (i:∀{K:Bool->Prop},eqF r xs y K->∃p,K p/\∀n,r.depth<=n->∀w,(Op.eqFields n u.toArray vs.toArray l).run P w=.ok p w)
  {D:Nat} (d:r.depth<=D) (s:∀q n,D<=n->∀w,(Op.eqFields n u.toArray vs.toArray l).run P w=.ok q w->(Op.eqFields n u.toArray vs.toArray (f::l)).run P w=.ok (p&&q) w) :
  ∃p,K p/\∀n,D<=n->∀w,(Op.eqFields n u.toArray vs.toArray (f::l)).run P w=.ok p w:=by
 have g:(eqF r xs y λq=>K (p&&q))->∃p,K p/\∀n,D<=n->∀w,(Op.eqFields n u.toArray vs.toArray (f::l)).run P w=.ok p w:=by
  intro H;obtain⟨q,H,b⟩:=i H;exact⟨_,H,λn h w=>s q n h w (b n (by omega) w)⟩
 cases r with
 |nil =>
  simp only[EqD.fits,KY]at a;subst a;exact⟨p,H,λn h w=>by have:=s true n h w rfl;simpa using this⟩
 |_=>exact g H
theorem ZrC {E:Env}:∀(d:EqD) (l:List Field),d.fits P l=true->∀(xs Y:List SV) (U vs:List Value),Yu E xs U->Yu E Y vs->∀{K:Bool->Prop},eqF d xs Y K->
  ∃p,K p/\∀n,d.depth<=n->∀w,(Op.eqFields n U.toArray vs.toArray l).run P w=.ok p w
 | .nil,l,c,xs,Y,U,vs,e,i,K,H=>by
  simp only[EqD.fits,KY]at c;subst c;exact⟨true,H,λn _ w=>rfl⟩
 | .int k o r,l,c,xs,Y,U,vs,e,i,K,H=>by
  cases l with
  |nil=>simp[EqD.fits]at c
  |cons f l =>
   simp only[EqD.fits,Ur,bne_iff_ne,Kl]at c;obtain⟨⟨⟨B,j⟩,g⟩,s⟩:=c;simp only[eqF]at H;obtain⟨a,u,A,t,H,_⟩:=ZdB _ _ e H;obtain⟨b,v,I,z,H,_⟩:=ZdB _ _ i H;have h:=ZkP g;obtain⟨p,H,G⟩:=ZCD t z H h;refine ZwC s H (λH=>ZrC r l s xs Y U vs e i H) (by simp only[EqD.depth];omega) (λq n C w D=>?_);simp only[EqD.depth]at C;obtain⟨m,rfl⟩:∃m,n=m+1:=⟨n-1,by omega⟩;exact ZfF B (ZfX h rfl (by rw[j];simpa using A) w) (ZfX h rfl (by rw[j];simpa using I) w) (G m w) D
 | .bool o r,l,c,xs,Y,U,vs,e,i,K,H=>by
  cases l with
  |nil=>simp[EqD.fits]at c
  |cons f l =>
   simp only[EqD.fits,Ur,bne_iff_ne,Kl]at c;obtain⟨⟨⟨B,j⟩,g⟩,s⟩:=c;simp only[eqF]at H;obtain⟨a,u,A,t,H,_⟩:=ZdB _ _ e H;obtain⟨b,v,I,z,H,_⟩:=ZdB _ _ i H;have h:=ZnL g;obtain⟨x,y,rfl,rfl,H⟩:=ZwT t z H;refine ZwC s H (λH=>ZrC r l s xs Y U vs e i H) (by simp only[EqD.depth];omega) (λq n C w D=>?_);simp only[EqD.depth]at C;obtain⟨m,rfl⟩:∃m,n=m+1:=⟨n-1,by omega⟩;exact ZfF B (ZfX h rfl (by rw[j];simpa using A) w) (ZfX h rfl (by rw[j];simpa using I) w) (run_equalIn_bool' w m f.type x y h) D
 | .str o r,l,c,xs,Y,U,vs,e,i,K,H=>by
  cases l with
  |nil=>simp[EqD.fits]at c
  |cons f l =>
   simp only[EqD.fits,Ur,bne_iff_ne,Kl]at c;obtain⟨⟨⟨B,j⟩,g⟩,s⟩:=c;simp only[eqF]at H;obtain⟨a,u,A,t,H,_⟩:=ZdB _ _ e H;obtain⟨b,v,I,z,H,_⟩:=ZdB _ _ i H;have h:=Zp2 g;obtain⟨p,H,G⟩:=ZCE t z H h;refine ZwC s H (λH=>ZrC r l s xs Y U vs e i H) (by simp only[EqD.depth];omega) (λq n C w D=>?_);simp only[EqD.depth]at C;obtain⟨m,rfl⟩:∃m,n=m+1:=⟨n-1,by omega⟩;exact ZfF B (ZfX h rfl (by rw[j];simpa using A) w) (ZfX h rfl (by rw[j];simpa using I) w) (G m w) D
 | .st o S N r,l,c,xs,Y,U,vs,e,i,K,H=>by
  cases l with
  |nil=>simp[EqD.fits]at c
  |cons f l =>
   simp only[EqD.fits,Ur,bne_iff_ne,Kl]at c;obtain⟨⟨⟨⟨B,j⟩,g⟩,M⟩,s⟩:=c;split at g
   ·rename_i gs A
    simp only[Ur,UT]at g;obtain⟨g,O⟩:=g;simp only[eqF,ZdY,Zke]at H;have J:=Zh8 _ _ (Zbg _ _ e o) S;have L:=Zh8 _ _ (Zbg _ _ i o) S;obtain⟨p,H,G⟩:=ZrC N gs.toList O _ _ _ _ J L H;refine ZwC s H (λH=>ZrC r l s xs Y U vs e i H) (by simp only[EqD.depth];omega) (λq n C w D=>?_);simp only[EqD.depth]at C;obtain⟨m,rfl⟩:∃m,n=m+1:=⟨n-1,by omega⟩;have F:P.fieldsOf f.type=gs:=by simp[Program.fieldsOf,A]
    refine ZfF B (by rw[j];exact Zxj A rfl M w) (by rw[j];exact Zxj A rfl M w) ?_ D;rw[run_equalIn_struct w m f.type _ _ (by rw[F];exact A) g,F];exact G m (by omega) w
   ·cases g
variable {T:TypeId} {op:BinOp} {K:SV->Prop}
theorem Zzv {t:TI} (h:ZeP P T t) {x y:SV} (H:eqK op t x y K) (f:den E x u) (g:den E y v) (o O:Operand) :
  ∃r s,(∀w,((do eqGuard op T o O u v;binOp op T u v:Sem Value)).run P w=.ok r w)/\den E s r/\K s:=by
 unfold eqK at H;split at H
 ·rename_i xs Y
  simp only[den]at f g;obtain⟨U,rfl,f⟩:=f;obtain⟨vs,rfl,g⟩:=g;split at H
  ·exact H.elim
  ·rename_i e
   split at H
   ·rename_i j
    have m:=h.eqd;simp only[e,Bool.false_or]at m;split at m
    ·rename_i i z
     simp only[Ur,UT]at m;obtain⟨⟨n,q⟩,k⟩:=m;obtain⟨p,H,B⟩:=ZrC t.eqd i.toList q xs Y U vs f g H;have F:P.fieldsOf T=i:=by simp[Program.fieldsOf,z]
     have l:∀w,(Op.equalIn 10000 T (.agg U.toArray) (.agg vs.toArray)).run P w=.ok p w:=by
      intro w;rw[show(10000:Nat)=9999+1 from rfl,run_equalIn_struct w 9999 T _ _ (by rw[F];exact z) n,F];exact B 9999 (by omega) w
     cases op<;>first|exact H.elim|skip
     ·exact⟨_,_,λw=>by rw[Sem.run_bind,run_eqGuard_agg w .eql T o O _ _ k,Result.andThen_ok,run_eql_struct w T,l w,Result.andThen_ok],Zbf ..,H⟩
     ·exact⟨_,_,λw=>by rw[Sem.run_bind,run_eqGuard_agg w .neq T o O _ _ k,Result.andThen_ok,run_neq_struct w T,l w,Result.andThen_ok],Zbf ..,H⟩
    ·cases m
   ·exact H.elim
 ·split at H
  ·rename_i A
   obtain⟨a,b,rfl,rfl,H⟩:=ZwT f g H;have z:P.underlying T=some .bool:=by
    obtain⟨d,N,c⟩:=h.get;rw[A]at c;cases d<;>simp[ZyG]at c
    exact N
   have l:∀w,(Op.equal T (.bool a) (.bool b)).run P w=.ok (a==b) w:=λw=>run_equalIn_bool' w 9999 T a b z;cases op<;>first|exact H.elim|skip
   ·exact⟨_,_,λw=>by simp only[eqGuard,binOp,Sem.run_bind,l];rfl,Zbf ..,H⟩
   ·exact⟨_,_,λw=>by simp only[eqGuard,binOp,Sem.run_bind,l];rfl,Zbf ..,H⟩
  ·exact H.elim
def Zm1 (op:BinOp) (b n:SV) (K:SV->Prop):Prop :=
 match op with
 | .eql=>K b
 | .neq=>K n
 |_=>False
def ZlR:TK->Bool
 | .ptr=>true
 |_=>false
def Zuc:TK->Bool
 | .sl=>true
 |_=>false
def ZHY (op:BinOp) (t:TI) (x:SV) (K:SV->Prop):Prop :=
 match x with
 | .nptr _ d=>if ZlR t.kind=true then Zm1 op (.bool d.isNone) (.bool (!d.isNone)) K else False
 | .ptr _ _=>if ZlR t.kind=true then Zm1 op (.blit false) (.blit true) K else False
 | .fptr _=>if ZlR t.kind=true then Zm1 op (.blit false) (.blit true) K else False
 | .nilp=>if ZlR t.kind=true then Zm1 op (.blit true) (.blit false) K else False
 | .nsl=>if Zuc t.kind=true then Zm1 op (.blit true) (.blit false) K else False
 | .sl _ d=>if Zuc t.kind=true then(d=[]->Zm1 op (.blit true) (.blit false) K)/\Zm1 op (.blit false) (.blit true) K else False
 |_=>False
theorem Zfr {b:Bool} (f:∀w,(Op.equal T u v).run P w=.ok b w) (e:(∃p,u=.pointer p)\/∃a n c,u=.slice a n c) (o O:Operand) {S N:SV}
  (d:den E S (.bool b)) (h:den E N (.bool (!b))) (H:Zm1 op S N K) :
  ∃r s,(∀w,((do eqGuard op T o O u v;binOp op T u v:Sem Value)).run P w=.ok r w)/\den E s r/\K s:=by
 unfold Zm1 at H;rcases e with⟨p,rfl⟩|⟨a,n,c,rfl⟩
 ·split at H
  ·exact⟨_,_,λw=>by simp only[eqGuard,binOp,Sem.run_bind,f];rfl,d,H⟩
  ·exact⟨_,_,λw=>by simp only[eqGuard,binOp,Sem.run_bind,f];rfl,h,H⟩
  ·exact H.elim
 ·split at H
  ·exact⟨_,_,λw=>by simp only[eqGuard,binOp,Sem.run_bind,f];rfl,d,H⟩
  ·exact⟨_,_,λw=>by simp only[eqGuard,binOp,Sem.run_bind,f];rfl,h,H⟩
  ·exact H.elim
theorem ZfY {e:TypeId} (h:P.underlying T=some (.pointer e)) (p:Option Addr) (w:World):(Op.equal T (.pointer p) (.pointer none)).run P w=.ok p.isNone w:=by
 show(Op.equalIn (9999+1) T (.pointer p) (.pointer none)).run P w=_;unfold Op.equalIn;rw[Sem.run_bind,run_underlying h,Result.andThen_ok];cases p<;>rfl
theorem Zk0 {e:TypeId} (h:P.underlying T=some (.slice e)) (a:Option Addr) (n c:Nat) (w:World):(Op.equal T (.slice a n c) (.slice none 0 0)).run P w=.ok a.isNone w:=by
 show(Op.equalIn (9999+1) T (.slice a n c) (.slice none 0 0)).run P w=_;unfold Op.equalIn;rw[Sem.run_bind,run_underlying h,Result.andThen_ok];cases a<;>rfl
theorem ZAy {i:TI} (h:ZeP P T i) {x y:SV} (D:y=.nilp\/y=.nsl) (H:ZHY op i x K) (j:(ZlR i.kind=true->y=.nilp)/\(Zuc i.kind=true->y=.nsl)) (c:den E x u) (A:den E y v) (o O:Operand) :
  ∃r s,(∀w,((do eqGuard op T o O u v;binOp op T u v:Sem Value)).run P w=.ok r w)/\den E s r/\K s:=by
 have k:ZlR i.kind=true->(∃e,P.underlying T=some (.pointer e))/\v=.pointer none:=by
  intro q;obtain⟨d,N,f⟩:=h.get;refine⟨?_,?_⟩
  ·cases d<;>simp[ZyG]at f<;>rw[<-f]at q<;>simp[ZlR]at q
   exact⟨_,N⟩
  ·have:=j.1 q
   subst this;simpa only[den]using A
 have n:Zuc i.kind=true->(∃e,P.underlying T=some (.slice e))/\v=.slice none 0 0:=by
  intro q;obtain⟨d,N,f⟩:=h.get;refine⟨?_,?_⟩
  ·cases d<;>simp[ZyG]at f<;>rw[<-f]at q<;>simp[Zuc]at q
   exact⟨_,N⟩
  ·have:=j.2 q
   subst this;simpa only[den]using A
 unfold ZHY at H;split at H
 ·rename_i t d
  split at H
  ·rename_i q
   obtain⟨⟨e,z⟩,rfl⟩:=k q;simp only[den]at c;rcases c with⟨rfl,g⟩|⟨x,p,xs,rfl,g,_⟩
   ·simp at g;subst g
    exact Zfr (ZfY z none) (.inl ⟨_,rfl⟩) o O (Zbf ..) (Zbf ..) H
   ·simp at g;subst g
    exact Zfr (ZfY z (some p)) (.inl ⟨_,rfl⟩) o O (Zbf ..) (Zbf ..) H
  ·exact H.elim
 ·split at H
  ·rename_i q
   obtain⟨⟨e,z⟩,rfl⟩:=k q;simp only[den]at c;obtain⟨b,_,rfl⟩:=c;exact Zfr (ZfY z (some _)) (.inl ⟨_,rfl⟩) o O (by simp only[den];rfl) (by simp only[den];rfl) H
  ·exact H.elim
 ·split at H
  ·rename_i q
   obtain⟨⟨e,z⟩,rfl⟩:=k q;simp only[den]at c;obtain⟨p,xs,rfl,_⟩:=c;exact Zfr (ZfY z (some _)) (.inl ⟨_,rfl⟩) o O (by simp only[den];rfl) (by simp only[den];rfl) H
  ·exact H.elim
 ·split at H
  ·rename_i q
   obtain⟨⟨e,z⟩,rfl⟩:=k q;simp only[den]at c;subst c;exact Zfr (ZfY z none) (.inl ⟨_,rfl⟩) o O (by simp only[den];rfl) (by simp only[den];rfl) H
  ·exact H.elim
 ·split at H
  ·rename_i q
   obtain⟨⟨e,z⟩,rfl⟩:=n q;simp only[den]at c;subst c;exact Zfr (Zk0 z none 0 0) (.inr ⟨_,_,_,rfl⟩) o O (by simp only[den];rfl) (by simp only[den];rfl) H
  ·exact H.elim
 ·rename_i t d
  split at H
  ·rename_i q
   obtain⟨⟨e,z⟩,rfl⟩:=n q;simp only[den]at c;obtain⟨a,C,m,_,B,l⟩:=c;simp at m;subst m;cases a with
   |none =>
    have N:d=[]:=by
     rcases l with l|⟨p,xs,e,_⟩
     ·exact l
     ·cases e
    exact Zfr (Zk0 z none _ _) (.inr ⟨_,_,_,rfl⟩) o O (by simp only[den];rfl) (by simp only[den];rfl) (H.1 N)
   |some a=>exact Zfr (Zk0 z (some a) _ _) (.inr ⟨_,_,_,rfl⟩) o O (by simp only[den];rfl) (by simp only[den];rfl) H.2
  ·exact H.elim
 ·exact H.elim
end
section
variable {P:Program}
def ZrN (cells:List SV) (H:List Entry) (K:SV->List Entry->Prop):Prop :=
 ZvA H 0 λn=>ZtB H [.box cells] λH'=>K (.ptr n 0) H'
variable {B:Base} {E:Env} {H:List Entry} {K:SV->List Entry->Prop}
theorem Zum (m:Inv B E H) {cells:List SV} (k:ZrN cells H K) (cs:Array Value) (T:TypeId) (N:Yu E cells cs.toList) :
  ∃E' H' s,E'.w=E.w.alloc (.cells cs T)/\Inv B E' H'/\E.le E'/\den E' s (.pointer (some ⟨E.w.heap.size,0,none⟩))/\K s H':=by
 unfold ZrN at k;rw[Zek,Zde,Us]at k;have e:=Zr9 m (.cells cs T) (.pointer (some ⟨E.w.heap.size,0,none⟩));have h:(E.ids++[Value.pointer (some ⟨E.w.heap.size,0,none⟩)])[H.length]?=some (.pointer (some ⟨E.w.heap.size,0,none⟩)):=by
  rw[<-m.len];simp
 refine⟨⟨E.S,E.w.alloc (.cells cs T),E.ids++[.pointer (some ⟨E.w.heap.size,0,none⟩)]⟩,_,_,rfl,m.alloc (.cells cs T) _ _ rfl ?_,e,?_,k⟩
 ·exact⟨_,cs,T,h,Go.heap_alloc_new _ _,ZX e _ _ N⟩
 ·simp only[den]
  exact⟨_,h,rfl⟩
variable (w:World)
theorem Zd0 (o:Obj):Grow w (w.alloc o):=λb h=>Go.heap_alloc_old w o h
def ZDI (t:TI) (H:List Entry) (K:SV->List Entry->Prop):Prop:=ZqV t.zero λcells=>ZrN cells H K
variable {T:TypeId} {t:TI}
theorem ZyT (m:Inv B E H) (h:ZeP P T t) (k:ZDI t H K) :
  ∃u E' H' s,(Instr.alloc T true (.tuple #[])).run P E.w=.ok u E'.w/\Inv B E' H'/\E.le E'/\den E' s u/\K s H'/\Grow E.w E'.w:=by
 obtain⟨l,N,k⟩:=ZhU E _ _ k;obtain⟨i,b,_,_,z⟩:=h.info';obtain⟨E',H',s,c,d,f,g,a⟩:=Zum m k t.zero.cells T N;refine⟨_,E',H',s,?_,d,f,g,a,by rw[c];exact Zd0 _ _⟩;rw[c];simp[Instr.alloc,zeroValue,typeInfo,b,z,newVar,newRow]
def ZH9 (s:SV) (H:List Entry) (K:SV->List Entry->Prop):Prop:=if s.whole=true then ZrN s.cells H K else False
variable {v:Value}
theorem ZEi (m:Inv B E H) {s:SV} (q:den E s v) (k:ZH9 s H K) :
  ∃u E' H' r,(Instr.box T v).run P E.w=.ok u E'.w/\Inv B E' H'/\E.le E'/\den E' r u/\K r H'/\Grow E.w E'.w:=by
 unfold ZH9 at k;split at k
 ·rename_i c
  obtain⟨E',H',r,h,d,f,g,i⟩:=Zum m k v.cells T (Zbe q c);refine⟨_,E',H',r,?_,d,f,g,i,by rw[h];exact Zd0 _ _⟩;rw[h];simp[Instr.box,newVar,newRow]
 ·exact k.elim
def JR:List SV->List Entry->(List SV->List Entry->Prop)->Prop
 |[],H,K=>K [] H
 |s::r,H,K=>match s with
  | .own I=>ZiG H I λe=>match e with
   | .arr _ t d=>ZjD H I (.frz t d) λH'=>JR r H' λR H''=>K (.sl t d::R) H''
   | .darr _ e d _=>ZjD H I (.frz e.ty d) λH'=>JR r H' λR H''=>K (.sl e.ty d::R) H''
   | .frz t d=>JR r H λR H'=>K (.sl t d::R) H'
   |_=>False
  | .mown I=>ZiG H I λe=>match e with
   | .mpe k v d=>ZjD H I (.frm k v d) λH'=>JR r H' λR H''=>K (.mp k v d::R) H''
   | .frm k v d=>JR r H λR H'=>K (.mp k v d::R) H'
   |_=>False
  |s=>JR r H λR H'=>K (s::R) H'
theorem Vk {B:Base}:∀(cs:List SV) {E:Env} {H:List Entry} (_:Inv B E H) {vs:List Value} (_:Yu E cs vs) {K:List SV->List Entry->Prop} (_:JR cs H K),
  ∃E' H' C,Frz E H E' H'/\Inv B E' H'/\Yu E' C vs/\K C H'/\∀(i:Nat) (c:List SV),H[i]?=some (.box c)->H'[i]?=some (.box c)
 |[],E,H,z,vs,N,K,a=>⟨E,H,[],Frz.refl E H,z,N,a,λ_ _ h=>h⟩
 |s::r,E,H,z,vs,N,K,a=>by
  match vs,N with
  |[],N=>simp[Yu]at N
  |v::vs,N =>
   simp only[Yu]at N;have O:(JR r H λR H'=>K (s::R) H')->∃E' H' C,Frz E H E' H'/\Inv B E' H'/\Yu E' C (v::vs)/\K C H'/\∀(i:Nat) (c:List SV),H[i]?=some (.box c)->H'[i]?=some (.box c):=by
    intro a;obtain⟨E',H',C,m,l,n,o,p⟩:=Vk r z N.2 a;exact⟨E',H',s::C,m,l,⟨ZiC m.le s v N.1,n⟩,o,p⟩
   cases s with
   |own k =>
    simp only[JR]at a;obtain⟨e,j,a⟩:=XB H a;have l:=N.1;simp only[den]at l;have I:k<H.length:=(Ua.1 j).1;split at a
    ·rename_i J t d
     rw[Qa]at a;obtain⟨S',g,q,F,u⟩:=z.freeze j l.1;have x:Frz E H ⟨S',E.w,E.ids⟩ (H.set k (.frz t d)):=Frz.one j rfl l.1 rfl g u;obtain⟨E',H',C,m,b,n,o,p⟩:=Vk r q (ZX g _ _ N.2) a;refine⟨E',H',.sl t d::C,x.trans m,b,⟨by simp only[den];exact YL m.le.S m.le.w (.sl t) d [v] F,n⟩,o,λi c y=>p i c ?_⟩;by_cases f:k=i
     ·subst f;rw[j]at y;simp at y
     ·rw[UF f];exact y
    ·rename_i J e d L
     rw[Qa]at a;obtain⟨S',g,q,F,u⟩:=z.ZEG j l.1;have x:Frz E H ⟨S',E.w,E.ids⟩ (H.set k (.frz e.ty d)):=Frz.one j rfl l.1 rfl g u;obtain⟨E',H',C,m,b,n,o,p⟩:=Vk r q (ZX g _ _ N.2) a;refine⟨E',H',.sl e.ty d::C,x.trans m,b,⟨by simp only[den];exact YL m.le.S m.le.w (.sl e.ty) d [v] F,n⟩,o,λi c y=>p i c ?_⟩;by_cases f:k=i
     ·subst f;rw[j]at y;simp at y
     ·rw[UF f];exact y
    ·rename_i t d
     obtain⟨v',D,G⟩:=z.ent k _ j;have:=l.1.symm.trans D;simp at this;subst this;obtain⟨E',H',C,m,b,n,o,p⟩:=Vk r z N.2 a;exact⟨E',H',.sl t d::C,m,b,⟨by simp only[den];exact YL m.le.S m.le.w (.sl t) d [v] G,n⟩,o,p⟩
    ·exact a.elim
   |mown k =>
    simp only[JR]at a;obtain⟨e,j,a⟩:=XB H a;have l:=N.1;simp only[den]at l;have I:k<H.length:=(Ua.1 j).1;split at a
    ·rename_i A V d
     rw[Qa]at a;obtain⟨S',g,q,F,u⟩:=z.ZEH j l.1;have x:Frz E H ⟨S',E.w,E.ids⟩ (H.set k (.frm A V d)):=Frz.one j rfl l.1 rfl g u;obtain⟨E',H',C,m,b,n,o,p⟩:=Vk r q (ZX g _ _ N.2) a;refine⟨E',H',.mp A V d::C,x.trans m,b,⟨by simp only[den];exact YL m.le.S m.le.w (.mp A V) d [v] F,n⟩,o,λi c y=>p i c ?_⟩;by_cases f:k=i
     ·subst f;rw[j]at y;simp at y
     ·rw[UF f];exact y
    ·rename_i A V d
     obtain⟨v',D,G⟩:=z.ent k _ j;have:=l.1.symm.trans D;simp at this;subst this;obtain⟨E',H',C,m,b,n,o,p⟩:=Vk r z N.2 a;exact⟨E',H',.mp A V d::C,m,b,⟨by simp only[den];exact YL m.le.S m.le.w (.mp A V) d [v] G,n⟩,o,p⟩
    ·exact a.elim
   |_=>exact O (by simpa only[JR]using a)
variable {vs:List Value}
theorem ZpO (cs:List SV) (h:Inv B E H) (N:Yu E cs vs) {K:List SV->List Entry->Prop} (k:JR cs H K) :
  ∃E' H' C,E'.w=E.w/\E'.ids=E.ids/\Inv B E' H'/\E.le E'/\Yu E' C vs/\K C H':=by
 obtain⟨E',H',C,m,d,f,g,_⟩:=Vk cs h N k;exact⟨E',H',C,m.w,m.ids,d,m.le,f,g⟩
theorem Zs6 {S:Nat->Prop} {w:World}:∀(t:Ty) (d:t.den) (vs:List Value),rep S w t d vs->∀u∈vs,u.oneCell'=true
 | .int _,_,_,h,u,H=>by cases h;simp at H;subst H;rfl
 | .bool,_,_,h,u,H=>by cases h;simp at H;subst H;rfl
 | .str,_,_,h,u,H=>by cases h;simp at H;subst H;rfl
 | .unit,_,_,h,u,H=>by cases h;simp at H
 | .pair a b,_,_,⟨v1,v,e,n,f⟩,u,H=>by
   subst e;rcases Uu.1 H with H|H
   ·exact Zs6 a _ _ n u H
   ·exact Zs6 b _ _ f u H
 | .sl _,_,_,⟨a,c,e,_⟩,u,H=>by subst e;simp at H;subst H;rfl
 | .ptr _,_,_,⟨_,_,e,_⟩,u,H=>by subst e;simp at H;subst H;rfl
 | .fn _ _,_,_,⟨_,e,_⟩,u,H=>by subst e;simp at H;subst H;rfl
 | .mp _ _,_,_,.inl ⟨_,e⟩,u,H=>by subst e;simp at H;subst H;rfl
 | .mp _ _,_,_,.inr ⟨_,_,_,e,_⟩,u,H=>by subst e;simp at H;subst H;rfl
 | .nptr _,_,_,.inl ⟨_,e⟩,u,H=>by subst e;simp at H;subst H;rfl
 | .nptr _,_,_,.inr ⟨_,_,_,_,e,_⟩,u,H=>by subst e;simp at H;subst H;rfl
theorem Zn5 {t:Ty} {S:Nat->Prop} {w:World}:∀(l:List t.den) (xs:List Value),Vt (rep S w t) l xs->∀u∈xs,u.oneCell'=true
 |[],_,e,u,a=>by cases e;simp at a
 |d::l,_,⟨v1,v,e,r,s⟩,u,a=>by
   subst e;rcases Uu.1 a with a|a
   ·exact Zs6 t d v1 r u a
   ·exact Zn5 l v s u a
theorem ZgS (g:Nat) (cs:Array Value):w.grownBy (w.setRow g cs) (some g) :=
 ⟨rfl,rfl,rfl,by simp[World.setRow],λk _ H=>setRow_other w g k cs (λe=>H (by rw[e]))⟩
theorem Zj4 (h:ZeP P T t) (w:World) (g o:Nat) (v:Value) (cur:Array Value) (E:TypeId) (a:w.heap[g]?=some (.cells cur E (0,0)))
  (A:v.cells.size=t.size) (b:o+t.size<=cur.size) (d:∀u∈v.cells.toList,u.oneCell'=true) :
  (Instr.storeAt T (.pointer (some ⟨g,o,none⟩)) v).run P w=.ok () (w.setRow g (cur.toList.take o++v.cells.toList++cur.toList.drop (o+t.size)).toArray):=by
 obtain⟨i,l,q,_⟩:=h.info';have hst:=run_storeCells_at P g o E v.cells.toList 0 cur w a (by simp[A];exact b) d;simp only[Instr.storeAt,Instr.sureAddr,pure_bind,storeVar];rw[Sem.run_bind,run_sizeOf l,Result.andThen_ok,q];simp only[ne_eq,A,not_true_eq_false,Uh];rw[hst];simp[A]
def Zrt (cs:List SV) (n:Nat):Bool:=cs.length==n
def Zmm {α:Type} (d:List α) (o:Nat) (w:List α) (K:List α->Prop):Prop :=
 Zrl d o λa=>ZvA w 0 λn=>ZkI d (o+n) λc=>ZtB w c λb=>ZtB a b K
theorem Zjz {α:Type} (d:List α) (o:Nat) (w:List α) (K:List α->Prop):Zmm d o w K=K (d.take o++(w++d.drop (o+w.length))):=by
 simp[Zmm,Zke,Zek,ZdY,Zde]
theorem Zh7 {cs:List SV} (h:Yu E cs vs) {d:List SV} {u:List Value} (H:Yu E d u) (o:Nat) :
  Yu E (cs.take o++(d++cs.drop (o+d.length))) (vs.take o++u++vs.drop (o+u.length)):=by
 rw[Uj,Xo _ _ H];exact Zdz _ _ (Zh8 _ _ h o) _ _ (Zdz _ _ H _ _ (Zbg _ _ h _))
def Zxx (T:TI) (s sx:SV) (H:List Entry) (K:List Entry->Prop):Prop :=
 if(sx.whole&&Zru sx.cells&&Zrt sx.cells T.size)=true then
  match s with
  | .ptr I o=>ZiG H I λe=>match e with
   | .box O=>if o+T.size<=O.length then Zmm O o sx.cells λw=>ZjD H I (.box w) K else False
   |_=>False
  | .oep I z i o=>JR sx.cells H λcs H'=>ZiG H' I λe=>match e with
   | .arr g t d=>t.size=z/\o+T.size<=t.size/\Zlu d i λx=>JE t x λO=>Zmm O o cs λw=>QC t w λy _=>ZjD H' I (.arr g t (d.set i.toNat y)) K
   |_=>False
  |_=>False
 else False
variable {t:Nat}
theorem Zye (l vs:List Value) (N i o:Nat) (h:N<=l.length) (H:i*t+t<=N) (x:o+vs.length<=t) :
  (l.take (i*t+o)++vs++l.drop (i*t+o+vs.length)).take N =
   (l.take N).take (i*t)++(((l.take N).drop (i*t)).take t |>.take o |> (·++vs++(((l.take N).drop (i*t)).take t).drop (o+vs.length)))++(l.take N).drop (i*t+t):=by
 generalize i*t=A at *;apply Uy;intro j;simp only[List.getElem?_append,UB,Ky,Uk,Ug,UY];have E:min (A+o) l.length=A+o:=by omega
 have e:min A (min N l.length)=A:=by omega
 have k:min N l.length=N:=by omega
 have f:min t (N-A)=t:=by omega
 have a:min o t=o:=by omega
 simp only[E,e,k,f,a];repeat' split
 all_goals first
  |rfl
  |(exfalso;omega)
  |(congr 1;omega)
  |(symm;apply UA;omega)
  |(apply UA;omega)
theorem ZjY (l vs:List Value) (o N i f:Nat) (n:o+N<=l.length) (h:i*t+t<=N) (x:f+vs.length<=t) :
  ((l.take (o+(i*t+f))++vs++l.drop (o+(i*t+f)+vs.length)).drop o).take N =
   ((l.drop o).take N).take (i*t)++((((l.drop o).take N).drop (i*t)).take t |>.take f |> (·++vs++((((l.drop o).take N).drop (i*t)).take t).drop (f+vs.length)))++((l.drop o).take N).drop (i*t+t):=by
 rw[<-Zye (l.drop o) vs N i f (by rw[UY];omega) h x];congr 1;rw[List.take_add,Uj,Uj,List.drop_append_of_le_length (by rw[Uk];omega),List.drop_eq_nil_of_le (by rw[Uk];omega),Uw,Uj,List.drop_drop,Nat.add_assoc]
theorem ZuP (W:Inv B E H) {R:TI} (h:ZeP P T R) {sa sx:SV} {va:Value} (ha:den E sa va) (hx:den E sx v)
  {K:List Entry->Prop} (k:Zxx R sa sx H K) :
  ∃E' H',(Instr.storeAt T va v).run P E.w=.ok () E'.w/\Inv B E' H'/\E.le E'/\K H'/\E.w.grownBy E'.w (Y4 va):=by
 unfold Zxx at k;split at k
 ·rename_i hc
  simp only[Ur,Zrt,Kl]at hc;obtain⟨⟨hw,h1⟩,I⟩:=hc;have C:=Zbe hx hw;have hl:=Xo _ _ C;have J:=Zix _ _ C h1;have a8:v.cells.size=R.size:=by rw[<-UK,<-hl,I]
  have a:v.cells.toList.length=R.size:=by rw[<-hl,I]
  split at k
  ·rename_i V f
   obtain⟨e,M,k⟩:=XB H k;split at k
   ·rename_i e0
    split at k
    ·rename_i Z
     rw[Zjz,Qa]at k;simp only[den]at ha;obtain⟨b,U,rfl⟩:=ha;obtain⟨b',cs,T',e2,e3,e4⟩:=W.ent V _ M;have:=U.symm.trans e2;simp at this;subst this;have d2:=Xo _ _ e4;have m:=Zj4 h E.w b f v cs T' e3 a8 (by rw[<-UK,<-d2];exact Z) J;have N:=ZgS E.w b (cs.toList.take f++v.cells.toList++cs.toList.drop (f+R.size)).toArray;have j:=ZfG N W.Slt (λg e=>by simp at e;subst e;exact(W.free V _ _ _ M rfl U rfl).1);refine⟨⟨E.S,_,E.ids⟩,_,m,W.write M rfl U N _ ?_,j,k,N⟩;refine⟨b,_,T',U,setRow_heap E.w b cs _ T' (0,0) e3,?_⟩;have:=Zh7 (ZX j _ _ e4) (ZX j _ _ C) f;rw[a]at this;simpa using this
    ·exact k.elim
   ·exact k.elim
  ·rename_i V sz i f
   obtain⟨E1,H1,d7,F,a0,A,a3,b5,k⟩:=ZpO _ W C k;obtain⟨e,M,k⟩:=XB H1 k;split at k
   ·rename_i et t d
    obtain⟨d3,d9,d8,d6,k⟩:=k;have l:i.toNat<d.length:=by omega
    obtain⟨x,b0⟩:∃x,d[i.toNat]?=some x:=⟨_,Ub l⟩;have k:=k x b0;simp only[QS,Zjz]at k;simp only[den]at ha;obtain⟨b,u,n,c,U,rfl⟩:=ha;have z:E1.ids[V]?=some (.slice (some ⟨b,u,none⟩) n c):=by rw[a0];exact U
    obtain⟨v',xs,e2,a5,s⟩:=A.ent V _ M;have:=z.symm.trans e2;simp at this;subst this;rcases a5.2 with⟨hv,_⟩|⟨g,b1,cur,o,hv,b7,hh,G,d0,Y,O⟩
    ·simp at hv
    ·simp only[Value.slice.injEq,Option.some.injEq,Addr.mk.injEq,and_true]at hv
     obtain⟨⟨b2,b3⟩,d1,b4⟩:=hv;subst b2;subst b3;rw[<-d3];rw[F]at hh;have L:cur.toList.length=cur.size:=UK;have X:u+d.length*t.size<=cur.toList.length:=by
      rw[L];exact Ko (Nat.add_le_add_left (U8 _ G) _) Y
     have b8:i.toNat*t.size+t.size<=d.length*t.size:=by
      rw[<-Kc];exact U8 _ l
     have m:=Zj4 h E.w b (u+(i.toNat*t.size+f)) v cur et hh a8 (by rw[<-L];omega) J;have N:=ZgS E1.w b (cur.toList.take (u+(i.toNat*t.size+f))++v.cells.toList++cur.toList.drop (u+(i.toNat*t.size+f)+R.size)).toArray;have j:=ZfG N A.Slt (λg e=>by simp at e;subst e;exact(A.free V _ _ _ M rfl z rfl).1);have p:=Zmd (λd vs=>QD t d vs) _ _ s i.toNat;have b6:d.drop i.toNat=x::d.drop (i.toNat+1):=by
      rw[Kw l];have:=Ub l;rw[b0]at this;simp at this;rw[this]
     rw[b6]at p;obtain⟨v1,v2,a9,a6,_⟩:=p;have a2:=QD t x v1 a6;have d4:v1=(xs.drop (i.toNat*t.size)).take t.size:=by rw[a9,<-a2];simp
     have a4:=Zh7 (ZX j _ _ (Qg t x v1 a6)) (ZX j _ _ b5) f;obtain⟨y,r,w1,w2,Q,a7,_,a1⟩:=Qj t _ _ _ a4 k;rw[Qa]at a1;have b9:=QD t y w1 a7;have d5:w2=[]:=by
      have:=UN List.length Q;simp only[Ug,Uk,UY,a2,b9,a]at this;apply UI;omega
     subst d5;rw[Un]at Q;refine⟨⟨E1.S,E1.w.setRow b _,E1.ids⟩,_,?_,A.write M rfl z N _ ?_,a3.trans j,a1,by rw[<-F];exact N⟩
     ·rw[F];exact m
     ·have D:=J8 (R':=rep E1.S (E1.w.setRow b (cur.toList.take (u+(i.toNat*t.size+f))++v.cells.toList++cur.toList.drop (u+(i.toNat*t.size+f)+R.size)).toArray) t) (λd vs=>YL j.S j.w t d vs) _ _ s
      have q:=ZrS (λd vs=>QD t d vs) _ _ D i.toNat y w1 l a7;refine⟨_,_,z,⟨?_,.inr ⟨b,b1,_,u,?_,b7,setRow_heap E1.w b cur _ et (0,0) (by rw[F];exact hh),by simpa using G,d0,?_,rfl⟩⟩,?_⟩
      ·rw[Uk,List.toList_toArray,UH]
       simp only[Ug,Uk,UY,a];omega
      ·rw[UH,d1,b4]
      ·rw[Kk]
       simp only[Ug,Uk,UY,a];rw[<-L]at Y;omega
      ·rw[UH]
       have hsp:=ZjY (t:=t.size) cur.toList v.cells.toList u (d.length*t.size) i.toNat f X b8 (by rw[a];omega);rw[a]at hsp;rw[List.toList_toArray,hsp,O,<-d4];rw[<-a]at q ⊢;rw[<-Q]at q;exact q
   ·exact k.elim
  ·exact k.elim
 ·exact k.elim
end
section
variable {P:Program}
def Zxk (R:List SV):List (Nat×Operand)->(List (Nat×SV)->Prop)->Prop
 |[],K=>K []
 |(i,x)::r,K=>Za1 R x λs=>Zxk R r λl=>K ((i,s)::l)
def ZlL (E:Env):List (Nat×SV)->List (Nat×Value)->Prop
 |[],[]=>True
 |(i,s)::r,(j,v)::q=>i=j/\den E s v/\ZlL E r q
 |_,_=>False
theorem Zql {E:Env} {R:List SV} {a:Act} (N:Yu E R a.tmps.toList):∀(p:List (Nat×Operand)) {K:List (Nat×SV)->Prop},Zxk R p K->
  ∃l,ZlL E l (p.map λx=>(x.1,a.eval x.2))/\K l
 |[],K,h=>⟨[],trivial,h⟩
 |(i,x)::r,K,h=>by
  obtain⟨s,H,h⟩:=YU N h;obtain⟨l,q,h⟩:=Zql N r h;exact⟨(i,s)::l,⟨rfl,H,q⟩,h⟩
def Zvk (place:Nat->(Nat->Nat->Prop)->Prop):List SV->List (Nat×SV)->(List SV->Prop)->Prop
 |z,[],K=>K z
 |z,(i,s)::r,K=>place i λo S=>if s.whole=true/\s.cells.length=S/\o+S<=z.length then Zmm z o s.cells λZ=>Zvk place Z r K else False
theorem Zzz (cs:Array Value) (o:Nat) (v:Value) (h:o+v.cells.size<=cs.size) :
  (v.cells.zipIdx.foldl (λcs (x:Value×Nat)=>cs.setIfInBounds (o+x.2) x.1) cs).toList=cs.toList.take o++v.cells.toList++cs.toList.drop (o+v.cells.size):=by
 have m:v.cells.zipIdx.foldl (λcs (x:Value×Nat)=>cs.setIfInBounds (o+x.2) x.1) cs=(v.cells.toList.zipIdx 0).foldl (λcs (x:Value×Nat)=>cs.setIfInBounds (o+x.2) x.1) cs:=by
  rw[<-Array.foldl_toList,Array.toList_zipIdx]
 rw[m];obtain⟨d,f⟩:=Great.foldl_set o v.cells.toList 0 cs;apply Uy;intro k;rw[KP,f k];simp only[List.getElem?_append,UB,Ky,Uk,Ug,UK,U7,KP];have E:min o cs.size=o:=by omega
 simp only[E];by_cases a:k<o
 ·have:¬(o<=k/\k<o+v.cells.size/\k<cs.size):=by omega
  have A:k<o+v.cells.size:=by omega
  rw[Ue this,Uc A,Uc a,Uc a]
 ·by_cases A:k<o+v.cells.size
  ·have:(o<=k/\k<o+v.cells.size/\k<cs.size):=by omega
   simp[this,a,A]
  ·have:¬(o<=k/\k<o+v.cells.size/\k<cs.size):=by omega
   have e:o+v.cells.size+(k-(o+v.cells.size))=k:=by omega
   simp[this,a,A,e]
theorem ZmI {E:Env} (place:Nat->(Nat->Nat->Prop)->Prop) (p:Nat->Option (Nat×Nat)) (k:∀i K,place i K->∃o s,p i=some (o,s)/\K o s) :
  ∀(P:List (Nat×SV)) (Q:List (Nat×Value)),ZlL E P Q->∀(z:List SV) (cs:Array Value) {K:List SV->Prop},Yu E z cs.toList->Zvk place z P K->
   ∃Z C,Instr.fill p cs Q=some C/\Yu E Z C.toList/\K Z
 |[],[],_,z,cs,K,T,h=>⟨z,cs,rfl,T,h⟩
 |(i,s)::r,(j,v)::q,N,z,cs,K,T,h=>by
  obtain⟨rfl,w,F⟩:=N;simp only[Zvk]at h;obtain⟨o,S,g,h⟩:=k i _ h;split at h
  ·rename_i t
   obtain⟨y,l,b⟩:=t;rw[Zjz]at h;have c:=Zbe w y;have u:=Xo _ _ c;have e:=Xo _ _ T;have a:v.cells.size=S:=by rw[<-UK,<-u,l]
   have H:=Zzz cs o v (by rw[a,<-UK,<-e];exact b);have hsp:=Zh7 T c o;obtain⟨Z,C,f,m,n⟩:=ZmI place p k r q F _ (v.cells.zipIdx.foldl (λcs (x:Value×Nat)=>cs.setIfInBounds (o+x.2) x.1) cs) (by rw[H];simpa using hsp) h;refine⟨Z,C,?_,m,n⟩;unfold Instr.fill;simp only[g];have O:cs.size=z.length:=by rw[e,UK]
   have d:¬((decide (v.cells.size≠S)||decide (o+v.cells.size>cs.size))=true):=by
    have f:¬(o+S>z.length):=by omega
    simp[a,O,f]
   rw[Ue d];exact f
  ·exact h.elim
 |[],_::_,N,_,_,_,_,_=>by simp[ZlL]at N
 |_::_,[],N,_,_,_,_,_=>by simp[ZlL]at N
def Zy2 (t:TI) (p:List (Nat×SV)) (K:SV->Prop):Prop :=
 ZqV t.zero λz =>
  match t.kind with
  | .st=>Zvk (λi k=>ZGg t.flds i λo s _=>k o s) z p λcs=>K (.agg cs)
  | .arr _=>Zvk (λi k=>k (i*t.esize) t.esize) z p λcs=>K (.agg cs)
  |_=>False
variable {T:TypeId} {t:TI}
theorem Ztl (h:ZeP P T t) {s:Array Field} (N:P.underlying T=some (.struct s)) :
  s.toList.mapM (λf=>(P.info? f.type).map λi=>(f.offset,i.size))=some (t.flds.map λx=>(x.1,x.2.1)):=by
 have:=h.flds;rw[N]at this;simp only at this;revert this;generalize t.flds=F;generalize s.toList=l;intro this;induction l generalizing F with
 |nil=>cases F with
  |nil=>rfl
  |cons=>simp at this
 |cons f l I =>
  cases F with
  |nil=>simp at this
  |cons x F =>
   simp only[List.map_cons,List.cons.injEq,Prod.mk.injEq]at this;obtain⟨⟨d,H,_⟩,b⟩:=this;cases a:P.info? f.type with
   |none=>simp[a]at H
   |some i =>
    simp[a]at H;simp[List.mapM_cons,I F b,a,d,H]
variable {E:Env} {Q:Array (Nat×Value)}
theorem Zy3 (h:ZeP P T t) {p:List (Nat×SV)} (N:ZlL E p Q.toList) {K:SV->Prop} (a:Zy2 t p K) :
  ∃u s,ZqZ P (Instr.build T Q) u/\den E s u/\K s:=by
 unfold Zy2 at a;obtain⟨z,v,a⟩:=ZhU E _ _ a;obtain⟨i,q,_,_,H⟩:=h.info';split at a
 ·rename_i m
  obtain⟨D,d,b⟩:=h.get;rw[m]at b;obtain⟨F,rfl⟩:∃F,D=.struct F:=by cases D<;>simp[ZyG]at b;exact⟨_,rfl⟩
  obtain ⟨Z,C,c,f,j⟩:=ZmI (E:=E) (λi k=>ZGg t.flds i λo s _=>k o s) (((t.flds.map λx=>(x.1,x.2.1)).toArray)[·]?) (λi K r=>by
   obtain ⟨o,s,g,e,a⟩:=ZsV _ r;exact ⟨o,s,by simp[e],a⟩) p Q.toList N z t.zero.cells v a
  refine⟨_,_,λw=>run_build w T Q C ?_,by simp only[den];exact⟨C.toList,by simp,f⟩,j⟩;unfold Program.built;simp only[q,d,H,Ztl h d];exact c
 ·rename_i n d
  obtain⟨A,_,I,l,y,_,_⟩:=h.array d;obtain⟨Z,C,c,f,j⟩:=ZmI (E:=E) (λi k=>k (i*t.esize) t.esize) (λi=>some (i*t.esize,t.esize)) (λi K r=>⟨_,_,rfl,r⟩) p Q.toList N z t.zero.cells v a;refine⟨_,_,λw=>run_build w T Q C ?_,by simp only[den];exact⟨C.toList,by simp,f⟩,j⟩;unfold Program.built;simp only[q,A,H,l,y];exact c
 ·exact a.elim
def ZsX (t:Ty):Nat->List SV->(List t.den->Prop)->Prop
 |0,_,K=>K []
 |n+1,cs,K=>QC t cs λx r=>ZsX t n r λl=>K (x::l)
theorem Zqj {E:Env} (t:Ty):∀(n:Nat) (cs:List SV) {K:List t.den->Prop} (vs:List Value),Yu E cs vs->vs.length=n*t.size->ZsX t n cs K->
  ∃l,l.length=n/\Vt (rep E.S E.w t) l vs/\K l
 |0,cs,K,vs,_,q,h=>⟨[],rfl,by simp[Vt];exact UI (by simpa using q),h⟩
 |n+1,cs,K,vs,N,q,h=>by
  obtain ⟨x,r,v1,v,e,d,f,g⟩:=Qj t cs _ vs N h;have H:=QD t x v1 d;obtain ⟨l,c,F,k⟩:=Zqj t n r v f (by
   subst e;rw[Ug,H,Kc] at q;omega) g
  exact⟨x::l,by simp[c],⟨v1,v,e,d,F⟩,k⟩
def ZiM (g:TypeId) (t:Ty) (d:List t.den) (H:List Entry) (K:SV->List Entry->Prop):Prop :=
 ZvA H 0 λn=>ZtB H [.arr g t d] λH'=>K (.own n) H'
variable {B:Base} {H:List Entry} {K:SV->List Entry->Prop}
theorem Zqg (m:Inv B E H) {g:TypeId} {t:Ty} {d:List t.den} (k:ZiM g t d H K) (cs:Array Value) (c:Nat)
  (q:d.length<=c) (R:c<=maxLen) (a:cs.size=c*t.size) (F:Vt (rep E.S E.w t) d (cs.toList.take (d.length*t.size))) :
  ∃E' H' s,E'.w=E.w.alloc (.cells cs g)/\Inv B E' H'/\E.le E'/\den E' s (.slice (some ⟨E.w.heap.size,0,none⟩) d.length c)/\K s H':=by
 unfold ZiM at k;rw[Zek,Zde,Us]at k;have e:=Zr9 m (.cells cs g) (.slice (some ⟨E.w.heap.size,0,none⟩) d.length c);have h:(E.ids++[Value.slice (some ⟨E.w.heap.size,0,none⟩) d.length c])[H.length]?=some (.slice (some ⟨E.w.heap.size,0,none⟩) d.length c):=by
  rw[<-m.len];simp
 refine⟨⟨E.S,E.w.alloc (.cells cs g),E.ids++[.slice (some ⟨E.w.heap.size,0,none⟩) d.length c]⟩,_,_,rfl,m.alloc (.cells cs g) _ _ rfl ?_,e,?_,k⟩
 ·refine⟨_,cs.toList.take (d.length*t.size),h,⟨?_,.inr ⟨_,c,cs,0,rfl,Nat.zero_le _,Go.heap_alloc_new _ _,q,R,by rw[Us];exact Nat.le_of_eq a.symm,by rw[KE]⟩⟩,J8 (λd vs=>YL e.S e.w t d vs) _ _ F⟩
  have L:cs.toList.length=cs.size:=UK;rw[Uk,L,a];have:=U8 t.size q;omega
 ·simp only[den]
  exact⟨h,_,_,_,rfl⟩
def ZGY (z:List SV):Nat->(List SV->Prop)->Prop
 |0,K=>K []
 |n+1,K=>ZGY z n λl=>ZtB z l K
theorem ZvR (z:List SV):∀(n:Nat) (K:List SV->Prop),ZGY z n K=K (List.replicate n z).flatten
 |0,_=>rfl
 |n+1,K=>by simp[ZGY,ZvR z n,Zde,KB]
theorem Zsm {E:Env} {z:List SV} {vs:List Value} (h:Yu E z vs):∀n,Yu E (List.replicate n z).flatten (List.replicate n vs).flatten
 |0=>trivial
 |n+1=>by simpa[KB]using Zdz _ _ h _ _ (Zsm h n)
theorem Zey? (vs:List Value):∀(n k:Nat),(List.replicate n vs).flatten[k]?=if k<n*vs.length then vs[k%vs.length]? else none
 |0,k=>by simp
 |n+1,k=>by
  rw[KB,List.flatten_cons,List.getElem?_append];by_cases h:k<vs.length
  ·rw[Uc h,Uc (by rw[Kc];omega),Nat.mod_eq_of_lt h]
  ·rw[Ue h,Zey? vs n (k-vs.length)]
   have e:(k-vs.length)%vs.length=k%vs.length:=by
    rw[<-Nat.mod_eq_sub_mod (by omega)]
   rw[e,Kc];by_cases f:k<n*vs.length+vs.length
   ·rw[QP,Uc f]
   ·rw[QQ,Ue f]
theorem ZiK (z:Array Value) (n:Nat):(madeCells z (n*z.size)).toList=(List.replicate n z.toList).flatten:=by
 apply Uy;intro k;rw[Zey?,UK];simp only[madeCells,Array.toList_map,Array.toList_range,UL,Kv];by_cases h:k<n*z.size
 ·have T:0<z.size:=by
   rcases Nat.eq_zero_or_pos z.size with m|m
   ·rw[m]at h;omega
   ·exact m
  have H:k%z.size<z.size:=Nat.mod_lt _ T;simp[h,H]
 ·simp[h]
def ZlY (t:TI) (len:Nat) (p:List (Nat×SV)) (H:List Entry) (K:SV->List Entry->Prop):Prop :=
 match t.kind with
 | .sl=>if len=0/\p.isEmpty=true then ZiM t.elem t.ety [] H K else ZqV t.ezero λz=>if z.length=t.esize/\t.ety.size=t.esize/\0<len*t.esize/\len*t.esize<=16777216 then
   ZGY z len λZ=>Zvk (λi k=>k (i*t.esize) t.esize) Z p λcs=>JR cs H λC H'=>ZsX t.ety len C λd=>ZiM t.elem t.ety d H' K
  else False
 |_=>False
theorem Zq1 (hI:Inv B E H) (h:ZeP P T t) {len:Nat} {N:List (Nat×SV)} (S:ZlL E N Q.toList) (a:ZlY t len N H K) :
  ∃u E' H' s,(Instr.buildSlice T len Q).run P E.w=.ok u E'.w/\Inv B E' H'/\E.le E'/\den E' s u/\K s H'/\Grow E.w E'.w:=by
 unfold ZlY at a;split at a
 ·rename_i D
  split at a
  ·rename_i A
   obtain⟨rfl,p⟩:=A;have p:N=[]:=by simpa using p
   subst p;have hq:Q.toList=[]:=by cases Y:Q.toList with
    |nil=>rfl
    |cons q r=>rw[Y]at S;simp[ZlL]at S
   obtain⟨Z,_,ie,l,M,_,o⟩:=h.slice D;obtain⟨E2,H2,s,e,g,b,j,a⟩:=Zqg hI a #[] 0 (by simp) (by unfold maxLen;omega) (by simp) (by simp[Vt]);refine⟨_,E2,H2,s,?_,g,b,j,a,by rw[e];exact Zd0 _ _⟩;rw[e];simp[Instr.buildSlice,run_underlying Z,sizeOf,typeInfo,l,hq,Instr.fill,newRow];congr 2;apply Array.ext';simp
  obtain⟨z,hz,a⟩:=ZhU E _ _ a;split at a
  ·rename_i hc
   obtain⟨a0,y,I,a3⟩:=hc;obtain⟨Z,_,ie,l,M,_,o⟩:=h.slice D;rw[ZvR]at a;have a1:=Xo _ _ hz;have a2:t.ezero.cells.size=t.esize:=by rw[<-UK,<-a1,a0]
   have n:(madeCells t.ezero.cells (len*t.esize)).toList=(List.replicate len t.ezero.cells.toList).flatten:=by
    rw[<-a2];exact ZiK _ _
   obtain⟨z',C,h1,h2,h3⟩:=ZmI (E:=E) (λi k=>k (i*t.esize) t.esize) (λi=>some (i*t.esize,t.esize)) (λi K f=>⟨_,_,rfl,f⟩) N Q.toList S _ (madeCells t.ezero.cells (len*t.esize)) (by rw[n];exact Zsm hz len) a;obtain⟨E1,H1,O,J,a4,R,G,U,a⟩:=ZpO _ hI h2 h3;have x:∀(Q:List (Nat×Value)) (c L:Array Value),Instr.fill (λi=>some (i*t.esize,t.esize)) c Q=some L->L.size=c.size:=by
    intro Q;induction Q with
    |nil=>intro c L f;simp[Instr.fill]at f;rw[f]
    |cons q Q ih =>
     intro c L f;obtain⟨i,v⟩:=q;simp only[Instr.fill]at f;split at f
     ·cases f
     ·have:=ih _ _ f
      rw[this,<-Array.foldl_toList,Array.toList_zipIdx];exact(Great.foldl_set (i*t.esize) v.cells.toList 0 c).1
   have X:C.size=len*t.esize:=by rw[x _ _ _ h1,size_madeCells]
   obtain⟨d,F,V,a⟩:=Zqj t.ety len O C.toList U (by rw[UK,X,y]) a;have m:1<=t.esize:=by
    rcases Nat.eq_zero_or_pos t.esize with A|A
    ·rw[A]at I;omega
    ·exact A
   have W:len<=maxLen:=by
    have:=Nat.mul_le_mul_left len m;unfold maxLen;omega
   obtain ⟨E2,H2,s,e,g,b,j,a⟩:=Zqg R a C len (by omega) W (by rw[X,y]) (by
    rw[F,y,<-X,<-UK,Uq];exact V)
   refine⟨_,E2,H2,s,?_,g,G.trans b,j,a,by rw[e,J];exact Zd0 _ _⟩;rw[e,J,F];exact run_buildSlice E.w T t.elem len Q C ie t.ezero Z l o (by rw[M];omega) (by rw[M];omega) (by rw[M];exact h1)
  ·exact a.elim
 ·exact a.elim
def ZEW (t:TI) (sl s:SV) (H:List Entry) (K:SV->List Entry->Prop):Prop :=
 match t.kind,sl,s with
 | .sl,.int _ l,.int _ c=>ZqV t.ezero λz=>if z.length=t.esize/\t.ety.size=t.esize then
   0<=l/\l<=c/\c<=4611686018427387904/\(t.ebytes:Int)*c<=281474976710656/\QC t.ety z λx _=>ZiM t.elem t.ety (List.replicate l.toNat x) H K
  else False
 |_,_,_=>False
theorem Zkp {α:Type} {R:α->List Value->Prop} {x:α} {vs:List Value} (h:R x vs):∀n,Vt R (List.replicate n x) (List.replicate n vs).flatten
 |0=>by simp[Vt]
 |n+1=>by simpa[KB,Vt]using⟨vs,_,rfl,h,Zkp h n⟩
theorem ZCR (R:Inv B E H) (h:ZeP P T t) {sl S:SV} {J V:Value} (F:den E sl J) (q:den E S V) (k:ZEW t sl S H K) :
  ∃u E' H' s,(Instr.makeSlice T J V).run P E.w=.ok u E'.w/\Inv B E' H'/\E.le E'/\den E' s u/\K s H'/\Grow E.w E'.w:=by
 unfold ZEW at k;split at k
 ·rename_i kl l Z c i
  obtain⟨z,I,k⟩:=ZhU E _ _ k;split at k
  ·rename_i a
   obtain⟨v,y⟩:=a;obtain⟨M,m,D,L,k⟩:=k;obtain⟨X,_,Y,j,W,U,o⟩:=h.slice i;simp only[den]at F q;subst F;subst q;have A:=Xo _ _ I;have O:t.ezero.cells.size=t.esize:=by rw[<-UK,<-A,v]
   obtain⟨x,r,v1,v2,C,G,_,k⟩:=Qj _ _ _ _ I k;have p:v1=t.ezero.cells.toList:=by
    have N:=QD _ _ _ G;have Q:=UN List.length C;rw[Ug,UK,O,N,y]at Q;have:v2=[]:=UI (by omega);rw[C,this,Un]
   have n:(madeCells t.ezero.cells (c.toNat*t.esize)).toList=(List.replicate c.toNat t.ezero.cells.toList).flatten:=by
    rw[<-O];exact ZiK _ _
   obtain ⟨E2,H2,s,e,g,b,f,k⟩:=Zqg R k (madeCells t.ezero.cells (c.toNat*t.esize)) c.toNat (by rw[UQ];omega) (by unfold maxLen;omega) (by rw[size_madeCells,y]) (by
    have q:=Zkp G c.toNat;have:=Zme (λd vs=>QD t.ety d vs) _ _ q l.toNat;rw[List.take_replicate]at this;rw[UQ,n,<-p]
    rwa [show min l.toNat c.toNat=l.toNat by omega] at this)
   refine⟨_,E2,H2,s,?_,g,b,f,k,by rw[e];exact Zd0 _ _⟩;rw[e,UQ,<-W];exact run_make E.w T t.elem Y t.ezero X j o kl Z l c M m (by rw[U];exact L) (by omega)
  ·exact k.elim
 ·exact k.elim
end
section
variable {P:Program}
theorem ZlV (w:World) (base:Nat) (t ty e:TypeId) (i:TypeInfo) (z:Value) (size bytes:Nat) (r:P.underlying t=some (.slice e)) (l:P.info? e=some i) (T:i.zero=some z)
  (B:i.size=size) (L:i.bytes=bytes) (_hzs:z.cells.size=size) (_hsz:0<size)
  (v:Value) (n:Nat) (xs:List Value) (b:w.Zaf base e size v n xs)
  (a:Addr) (m c:Nat) (s:List Value) (q:s.length=m*size) (H:∀j u,s[j]?=some u->w.cell? (a.add j)=some u) (y:∀u∈s,u.oneCell'=true)
  (D:n+m<=maxLen) (f:(n+m)*bytes<=140737488355328) {v':Value} {w':World} (h:(Builtin.append_ #[t,t] ty #[v,.slice (some a) m c]).run P w=.ok v' w') :
  v'=.slice none 0 0\/Y4 v'=v.ownBlock\/Y4 v'=some w.heap.size:=by
 subst B;subst L
 have I:n+m<=9223372036854775807:=by simp only[maxLen]at D;omega
 rcases b.2 with⟨rfl,rfl⟩|⟨g,p,cur,o,rfl,K,J,N,G,X,x⟩
 ·by_cases R:m=0
  ·subst R
   have M:s=[]:=UI (by simpa using q);subst M;have F:(Builtin.append_ #[t,t] ty #[.slice none 0 0,.slice (some a) 0 c]).run P w=.ok (.slice none 0 0) w:=by
    simp[Builtin.append_,run_underlying r,sizeOf,typeInfo,l,Builtin.lenOf,Builtin.firstCells,loadCells,loadCellsFrom]
   rw[F]at h;injection h with E _
   exact .inl E.symm
  ·have F:=run_append_nil (P:=P) w t ty e i z r l T a m c s q H (by omega) (by omega) (by have C:=f;simp only[Us]at C;omega)
   rw[F]at h;injection h with E _
   subst E;exact .inr (.inr rfl)
 ·by_cases d:n+m<=p
  ·have S:n*i.size+m*i.size<=p*i.size:=by rw[<-Nat.add_mul];exact U8 _ d
   have k:o+n*i.size+s.length<=cur.size:=by rw[q];omega
   have F:=ZiO (P:=P) w t ty e i r l g o n p cur J a m c s q H y d k;rw[F]at h;injection h with E _
   subst E;exact .inr (.inl rfl)
  ·have A:∀j u,xs[j]?=some u->w.cell? ((⟨g,o,none⟩:Addr).add j)=some u:=b.ZiY rfl
   have F:=run_append_grow (P:=P) w t ty e i z r l T ⟨g,o,none⟩ n p xs b.1 A a m c s q H (by omega) (by omega) (growslice_fits (by omega) f);rw[F]at h;injection h with E _
   subst E;exact .inr (.inr rfl)
def ZG4 (x:SV) (H:List Entry) (K:(t:Ty)->List t.den->Prop) (Knil:Prop):Prop :=
 match x with
 | .sl t d=>K t d
 | .nsl=>Knil
 | .own I=>ZiG H I λe=>match e with
  | .arr _ t d=>K t d
  | .frz t d=>K t d
  |_=>False
 |_=>False
def ZHm (E:Env) (t:Ty) (d:List t.den) (v:Value):Prop :=
 (v=.slice none 0 0/\d=[])\/∃a c xs,v=.slice (some a) d.length c/\xs.length=d.length*t.size/\(∀j u,xs[j]?=some u->E.w.cell? (a.add j)=some u)/\Vt (rep E.S E.w t) d xs
variable {E:Env} {t:Ty} {d:List t.den} {v:Value}
theorem Zp5 (h:rep E.S E.w (.sl t) d [v]):ZHm E t d v:=by
 obtain⟨a,c,e,H,f,g⟩:=h;simp at e;cases a with
 |none =>
  have:=f rfl;subst this;have N:d=[]:=UI (by omega);subst N;exact .inl ⟨e,rfl⟩
 |some A =>
  rcases g with g|⟨p,xs,i,k,s,q,g⟩
  ·subst g
   exact .inr ⟨A,c,[],e,by simp,λj u b=>by simp at b,rfl⟩
  ·simp at i;subst i
   exact .inr ⟨A,c,xs,e,Zm8 (λd vs=>QD t d vs) _ _ g,q,g⟩
variable {e:TypeId} {xs:List Value}
theorem ZvC (f:E.w.Zaf 0 e t.size v d.length xs) (h:Vt (rep E.S E.w t) d xs):ZHm E t d v:=by
 rcases f.2 with⟨rfl,n⟩|⟨g,c,cur,o,rfl,_,r,q,_⟩
 ·exact .inl ⟨rfl,UI n⟩
 ·exact .inr ⟨_,c,xs,rfl,f.1,f.ZiY rfl,h⟩
variable {B:Base} {H:List Entry} {x:SV}
theorem Zv4 (m:Inv B E H) (l:den E x v) {K:(t:Ty)->List t.den->Prop} {Kn:Prop} (h:ZG4 x H K Kn) :
  (∃t d,ZHm E t d v/\K t d)\/(v=.slice none 0 0/\Kn):=by
 unfold ZG4 at h;split at h
 ·rename_i t d;simp only[den]at l;exact .inl ⟨t,d,Zp5 l,h⟩
 ·simp only[den]at l;exact .inr ⟨l,h⟩
 ·rename_i I
  obtain⟨e,b,h⟩:=XB H h;simp only[den]at l;split at h
  ·rename_i c t d
   obtain⟨v',xs,a,f,g⟩:=m.ent I _ b;have:=l.1.symm.trans a;simp at this;subst this;exact .inl ⟨t,d,ZvC f g,h⟩
  ·rename_i t d
   obtain⟨v',a,f⟩:=m.ent I _ b;have:=l.1.symm.trans a;simp at this;subst this;exact .inl ⟨t,d,Zp5 f,h⟩
  ·exact h.elim
 ·exact h.elim
def Zu8 (i:TI) (s x:SV) (H:List Entry) (K:SV->List Entry->Prop):Prop :=
 match i.kind with
 | .sl=>ZqV i.ezero λz=>if z.length=i.esize/\0<i.esize/\0<i.ebytes then
   match s with
   | .own I=>ZiG H I λe=>match e with
    | .arr g t d=>if g=i.elem/\t.size=i.esize then
      ZG4 x H (λt' a=>if h:t'=t then(d.length+a.length)*i.ebytes<=140737488355328/\ZjD H I .gone λH'=>ZxJ h a λD=>ZiM g t (d++D) H' K else False)
       (ZjD H I .gone λH'=>ZiM g t d H' K)
     else False
    |_=>False
   | .nsl=>if i.ety.size=i.esize then
     ZG4 x H (λt' a=>if h:t'=i.ety then a.length*i.ebytes<=140737488355328/\ZxJ h a λD=>ZiM i.elem i.ety D H K else False) (ZiM i.elem i.ety [] H K)
    else False
   |_=>False
  else False
 |_=>False
variable {K:SV->List Entry->Prop}
theorem ZvQ (m:Inv B E H) (k:ZiM e t d H K)
  (f:E.w.Zaf 0 e t.size v d.length xs) (a:Vt (rep E.S E.w t) d xs)
  (b:∀ g,Y4 v=some g->¬E.S g/\(B.w.heap.size<=g\/B.io g)/\g<E.w.heap.size/\
   ∀ (j:Nat) (I:Entry) (V:Value),H[j]?=some I->I.live=true->E.ids[j]?=some V->¬Zi9 I V g) :
  ∃E' H' s,E'.w=E.w/\Inv B E' H'/\E.le E'/\den E' s v/\K s H':=by
 unfold ZiM at k;rw[Zek,Zde,Us]at k;have h:(E.ids++[v])[H.length]?=some v:=by rw[<-m.len];simp
 refine⟨⟨E.S,E.w,E.ids++[v]⟩,_,_,rfl,m.push v (.arr e t d) ⟨v,xs,h,f,a⟩ (λ_=>b),ZlM E v,?_,k⟩;simp only[den];refine⟨h,?_⟩;rcases f.2 with⟨rfl,_⟩|⟨g,c,cur,o,rfl,_⟩
 ·exact⟨_,_,_,rfl⟩
 ·exact⟨_,_,_,rfl⟩
theorem ZxF (m:Inv B E H) {T ty:TypeId} {i:TI} (h:ZeP P T i) {s:SV} {vs vx:Value} (hs:den E s vs) (hx:den E x vx) (k:Zu8 i s x H K) :
  ∃u E' H' r,(Builtin.append_ #[T,T] ty #[vs,vx]).run P E.w=.ok u E'.w/\Inv B E' H'/\E.le E'/\den E' r u/\K r H'/\E.w.grownBy E'.w vs.ownBlock:=by
 unfold Zu8 at k;split at k
 ·rename_i d2
  obtain⟨z,hz,k⟩:=ZhU E _ _ k;split at k
  ·rename_i hc
   obtain⟨d4,d6,a5⟩:=hc;obtain⟨hu,_,ie,W,b7,b1,U⟩:=h.slice d2;have b8:i.ezero.cells.size=i.esize:=by rw[<-UK,<-Xo _ _ hz,d4]
   have core:∀(t:Ty) (d:List t.den) (xs:List Value) (H1:List Entry),t.size=i.esize->E.w.Zaf 0 i.elem t.size vs d.length xs->Vt (rep E.S E.w t) d xs->
     (∀w',E.w.grownBy w' vs.ownBlock->Inv B ⟨E.S,w',E.ids⟩ H1/\E.le ⟨E.S,w',E.ids⟩)->
     (∀ g,vs.ownBlock=some g->¬E.S g/\(B.w.heap.size<=g\/B.io g)/\g<E.w.heap.size/\
      ∀ (j:Nat) (I:Entry) (V:Value),H1[j]?=some I->I.live=true->E.ids[j]?=some V->¬Zi9 I V g)->
     (∀(j:Nat) (I:Entry) (V:Value),H1[j]?=some I->I.live=true->E.ids[j]?=some V->¬Zi9 I V E.w.heap.size)->
     ∀(D:List t.den),ZHm E t D vx->(d.length+D.length)*i.ebytes<=140737488355328->ZiM i.elem t (d++D) H1 K->
     ∃u E' H' r,(Builtin.append_ #[T,T] ty #[vs,vx]).run P E.w=.ok u E'.w/\Inv B E' H'/\E.le E'/\den E' r u/\K r H'/\E.w.grownBy E'.w vs.ownBlock:=by
    intro t d xs H1 f n Q L J b4 D q p k;rcases q with⟨rfl,rfl⟩|⟨ad,c,N,rfl,b5,b3,a7⟩
    ·have hr:=ZgE (P:=P) (w:=E.w) 0 T ty i.elem ie t.size hu W vs d.length xs n
     obtain⟨F,G⟩:=L E.w ⟨rfl,rfl,rfl,UO _,λ_ _ _=>rfl⟩;rw[Un]at k;obtain⟨E',H',r,hw,h1,h2,h3,h4⟩:=ZvQ F k n Q (λg a=>J g (by rw[<-ZdJ n];exact a));exact⟨vs,E',H',r,by rw[hw];exact hr,h1,G.trans h2,h3,h4,by rw[hw];exact⟨rfl,rfl,rfl,UO _,λ_ _ _=>rfl⟩⟩
    ·have a9:d.length+D.length<=maxLen:=by
      have:=Nat.le_mul_of_pos_right (d.length+D.length) a5;unfold maxLen;omega
     obtain⟨v',w',hr,o,b2,_⟩:=Zna (P:=P) E.w 0 T ty i.elem ie i.ezero t.size i.ebytes hu W U (by rw[b7,f]) b1 (by rw[b8,f]) (by omega) vs d.length xs n
      ad D.length c N b5 b3 (Zn5 D N a7) a9 p (Nat.zero_le _)
     have b0:=ZlV (P:=P) E.w 0 T ty i.elem ie i.ezero t.size i.ebytes hu W U (by rw[b7,f]) b1 (by rw[b8,f]) (by omega) vs d.length xs n
      ad D.length c N b5 b3 (Zn5 D N a7) a9 p hr
     obtain⟨F,G⟩:=L w' b2;have a0:=J8 (R':=rep E.S w' t) (λd vs=>YL G.S G.w t d vs) _ _ Q;have b6:=J8 (R':=rep E.S w' t) (λd vs=>YL G.S G.w t d vs) _ _ a7;have X:∀g,Y4 v'=some g->g<w'.heap.size:=by
      intro g a;rw[ZdJ o]at a;exact(o.lt g a).2
     obtain ⟨E',H',r,hw,h1,h2,h3,h4⟩:=ZvQ F k (v:=v') (xs:=xs++N) (by rw[Ug];exact o) (Zj3 _ _ _ _ a0 b6) (λg a=>by
      rcases b0 with b|b|b
      ·subst b;simp[Y4]at a
      ·rw[b]at a
       obtain⟨a1,a2,_,a4⟩:=J g a;exact⟨a1,a2,X g (by rw[b];exact a),a4⟩
      ·rw[b]at a;simp at a;subst a
       exact ⟨λhS=>KT _ (m.Slt _ hS),.inl m.keeps.size,X _ b,b4⟩)
     exact⟨v',E',H',r,by rw[hw];exact hr,h1,G.trans h2,h3,h4,by rw[hw];exact b2⟩
   split at k
   ·rename_i A _hk0
    obtain⟨en,he,k⟩:=XB H k;split at k
    ·rename_i et t d
     split at k
     ·rename_i d1
      obtain⟨d3,f⟩:=d1;subst d3;simp only[den]at hs;obtain⟨v',xs,e1,h2,h3⟩:=m.ent A _ he;have:=hs.1.symm.trans e1;simp at this;subst this;have Z:=ZdJ h2;have l:∀(j:Nat) (I:Entry) (V:Value),(H.set A .gone)[j]?=some I->I.live=true->E.ids[j]?=some V->j≠A/\H[j]?=some I:=by
       intro j I V y q R;by_cases a6:A=j
       ·subst a6
        have X:A<H.length:=(Ua.1 he).1;rw[UG X]at y;simp at y;subst y;simp[Entry.live]at q
       ·rw[UF a6]at y;exact⟨λe=>a6 e.symm,y⟩
      have M:=core t d xs (H.set A .gone) f h2 h3
       (λw' a=>⟨m.write he rfl e1 (by rw[Z];exact a) .gone trivial,ZfG a m.Slt (λg C=>(m.free A _ vs g he rfl e1 ((show Y4 vs=some g by rw[Z];exact C))).1)⟩)
       (λg C=>by
        obtain ⟨a1,a2,a3⟩:=m.free A _ vs g he rfl e1 ((show Y4 vs=some g by rw[Z];exact C));refine ⟨a1,a2,a3,λj I V y q R b=>?_⟩;obtain ⟨Y,O⟩:=l j I V y q R;exact Y (m.sep j A I _ V vs g O he q rfl R e1 b ((show Y4 vs=some g by rw[Z];exact C))))
       (λj I V y q R b=>by
        obtain ⟨Y,O⟩:=l j I V y q R;exact KT _ (m.free j I V _ O q R b).2.2)
      rcases Zv4 m hx k with⟨t',D,q,k⟩|⟨rfl,k⟩
      ·split at k
       ·rename_i a8;subst a8
        obtain⟨b,k⟩:=k;rw[Qa]at k;exact M D q b k
       ·exact k.elim
      ·rw[Qa]at k
       have d5:(d.length+([]:List t.den).length)*i.ebytes<=140737488355328\/True:=.inr trivial;have hr:=ZgE (P:=P) (w:=E.w) 0 T ty i.elem ie t.size hu W vs d.length xs h2;have F:=m.drop A;obtain ⟨E',H',r,hw,h1,b9,d0,h4⟩:=ZvQ F k h2 h3 (λg C=>by
        obtain ⟨a1,a2,a3⟩:=m.free A _ vs g he rfl e1 C;refine ⟨a1,a2,a3,λj I V y q R b=>?_⟩;obtain ⟨Y,O⟩:=l j I V y q R;exact Y (m.sep j A I _ V vs g O he q rfl R e1 b C))
       exact⟨vs,E',H',r,by rw[hw];exact hr,h1,b9,d0,h4,by rw[hw];exact⟨rfl,rfl,rfl,UO _,λ_ _ _=>rfl⟩⟩
     ·exact k.elim
    ·exact k.elim
   ·simp only[den]at hs;subst hs
    split at k
    ·rename_i f
     have M:=core i.ety [] [] H f (World.Zll _ _ _ _) rfl
      (λw' a=>⟨m.grow a,ZfG a m.Slt (λg C=>by simp[Value.ownBlock]at C)⟩)
      (λg C=>by simp[Value.ownBlock]at C)
      (λj I V y q R b=>KT _ (m.free j I V _ y q R b).2.2)
     rcases Zv4 m hx k with⟨t',D,q,k⟩|⟨rfl,k⟩
     ·split at k
      ·rename_i a8;subst a8
       exact M D q (by simpa using k.1) k.2
      ·exact k.elim
     ·exact M [] (.inl ⟨rfl,rfl⟩) (by simp) k
    ·exact k.elim
   ·exact k.elim
  ·exact k.elim
 ·exact k.elim
end
section
variable {P:Program}
def ZJ9 (t:TI) (x:SV) (H:List Entry) (K:SV->Prop):Prop :=
 match t.kind with
 | .sl=>match x with
  | .sl _ d=>K (.int .i64 (d.length:Int))
  | .nsl=>K (.int .i64 0)
  | .own I=>ZiG H I λe=>match e with
   | .arr _ _ d=>K (.int .i64 (d.length:Int))
   | .frz _ d=>K (.int .i64 (d.length:Int))
   | .darr _ _ d _=>K (.int .i64 (d.length:Int))
   | .hole _ _ d _ _ _=>K (.int .i64 (d.length:Int))
   | .spl _ _ d _ _=>K (.int .i64 (d.length:Int))
   | .hsp _ _ d _ _ _=>K (.int .i64 (d.length:Int))
   |_=>False
  |_=>False
 | .str=>match x with
  | .str s=>K (.int .i64 (s.length:Int))
  |_=>False
 | .arr n=>K (.int .i64 (n:Int))
 |_=>False
variable {T:TypeId} {t:TI}
theorem ZeP.string (h:ZeP P T t) (H:t.kind=.str):P.underlying T=some .string:=by
 obtain⟨d,N,u⟩:=h.get;rw[H]at u;cases d<;>simp[ZyG]at u
 exact N
theorem ZeP.intOf (h:ZeP P T t) {k:IntKind} (H:t.kind=.int k):P.underlying T=some (.int k):=by
 obtain⟨d,N,u⟩:=h.get;rw[H]at u;cases d<;>simp[ZyG]at u
 subst u;exact N
variable {B:Base} {E:Env} {H:List Entry} {x:SV} {v:Value} {K:SV->Prop}
theorem ZER (m:Inv B E H) {ty:TypeId} {C:TI} (h:ZeP P T C) (l:den E x v) (k:ZJ9 C x H K) :
  ∃u s,ZqZ P (Builtin.len_ #[T] ty #[v]) u/\den E s u/\K s:=by
 unfold ZJ9 at k;have sl:∀(a:Option Addr) (n c:Nat),C.kind=.sl->v=.slice a n c->K (.int .i64 (n:Int))->∃u s,ZqZ P (Builtin.len_ #[T] ty #[v]) u/\den E s u/\K s:=by
  intro a n c N L k;subst L;have r:=(h.slice N).1;exact⟨_,_,λw=>by simp[Builtin.len_,run_underlying r];rfl,Zcz E .i64 n,k⟩
 split at k
 ·rename_i N
  split at k
  ·rename_i t d
   simp only[den]at l;obtain⟨a,p,b,_⟩:=l;simp at b;exact sl a _ p N b k
  ·simp only[den]at l
   exact sl none 0 0 N l k
  ·rename_i I
   obtain⟨M,q,k⟩:=XB H k;simp only[den]at l;split at k
   ·rename_i y t d
    obtain⟨v',xs,b,f,z⟩:=m.ent I _ q;have:=l.1.symm.trans b;simp at this;subst this;rcases f.2 with⟨rfl,i⟩|⟨g,p,cur,o,rfl,_⟩
    ·rw[i]at k;exact sl _ _ _ N rfl k
    ·exact sl _ _ _ N rfl k
   ·rename_i t d
    obtain⟨v',b,f⟩:=m.ent I _ q;have:=l.1.symm.trans b;simp at this;subst this;obtain⟨a,p,b,_⟩:=f;simp at b;exact sl a _ p N b k
   ·rename_i y e d F
    obtain⟨v',xs,J,b,f,z⟩:=m.ent I _ q;have:=l.1.symm.trans b;simp at this;subst this;rcases f.2 with⟨rfl,i⟩|⟨g,p,cur,o,rfl,_⟩
    ·rw[i]at k;exact sl _ _ _ N rfl k
    ·exact sl _ _ _ N rfl k
   ·rename_i y e d j cs F
    obtain⟨v',xs,X,V,G,D,O,b,f,z⟩:=m.ent I _ q;have:=l.1.symm.trans b;simp at this;subst this;rcases f.2 with⟨rfl,i⟩|⟨g,p,cur,o,rfl,_⟩
    ·rw[i]at k;exact sl _ _ _ N rfl k
    ·exact sl _ _ _ N rfl k
   ·rename_i y e d n F
    obtain⟨v',b,⟨xs,X,G,D,f,z⟩,_⟩:=m.ent I _ q;have:=l.1.symm.trans b;simp at this;subst this;rcases f.2 with⟨rfl,i⟩|⟨g,p,cur,o,rfl,_⟩
    ·rw[i]at k;exact sl _ _ _ N rfl k
    ·exact sl _ _ _ N rfl k
   ·rename_i y e d j cs F
    obtain⟨v',xs,X,V,G,D,b,f,z⟩:=m.ent I _ q;have:=l.1.symm.trans b;simp at this;subst this;rcases f.2 with⟨rfl,i⟩|⟨g,p,cur,o,rfl,_⟩
    ·rw[i]at k;exact sl _ _ _ N rfl k
    ·exact sl _ _ _ N rfl k
   ·exact k.elim
  ·exact k.elim
 ·rename_i N
  split at k
  ·rename_i s
   simp only[den]at l;subst l;refine⟨_,_,?_,Zcz E .i64 s.length,k⟩;have r:=h.string N;have A:(⟨s.toArray⟩:ByteArray).size=s.length:=by simp[ByteArray.size]
   intro w;simp only[Builtin.len_,List.getElem?_toArray,List.getElem?_cons_zero,Sem.run_bind,run_underlying r,Result.andThen_ok,A];rfl
  ·exact k.elim
 ·rename_i n N
  refine⟨_,_,?_,Zcz E .i64 n,k⟩;have r:=(h.array N).1;intro w;cases v<;>simp[Builtin.len_,run_underlying r,goInt]
 ·exact k.elim
theorem ZCT (x y:Int):(if y<x then y else x)=min x y:=by omega
theorem ZCS (x y:Int):(if y>x then y else x)=max x y:=by omega
def ZGQ (mx:Bool):SV->List SV->(SV->Prop)->Prop
 |s,[],K=>K s
 | .int k x,.int _ y::r,K=>ZGQ mx (.int k (if mx then max x y else min x y)) r K
 |_,_::_,_=>False
theorem ZvG {E:Env} {mx:Bool}:∀(cs:List SV) (s:SV) (v:Value) (vs:List Value),den E s v->Yu E cs vs->∀{K:SV->Prop},ZGQ mx s cs K->
  ∃u r,(∀w,(vs.foldlM (if mx then Builtin.max2 else Builtin.min2) v).run P w=.ok u w)/\den E r u/\K r
 |[],s,v,vs,q,N,K,H=>by
  match vs,N with
  |[],_=>exact⟨v,s,λ_=>rfl,q,by cases s<;>exact H⟩
  |_::_,N=>simp[Yu]at N
 |c::cs,s,v,vs,q,N,K,H=>by
  match vs,N with
  |[],N=>simp[Yu]at N
  |u::vs,N =>
   simp only[Yu]at N;unfold ZGQ at H;split at H
   ·simp at *
   ·rename_i k x b y r e
    simp at e;obtain⟨rfl,rfl⟩:=e;have a:=N.1;simp only[den]at q a;subst q;subst a;obtain⟨u',R,d,f,g⟩:=ZvG cs _ (.int k (if mx then max x y else min x y)) vs (Zcz E k _) N.2 H;refine⟨u',R,?_,f,g⟩;intro w;have d:=d w;rw[List.foldlM_cons,Sem.run_bind];cases mx
    ·simp only[Ka,Uh,Builtin.min2,ZCT,Sem.run_pure,Result.andThen_ok]at d ⊢;exact d
    ·simp only[Ui,Builtin.max2,ZCS,Sem.run_pure,Result.andThen_ok]at d ⊢;exact d
   ·exact H.elim
def ZKU (s:SV) (i:Nat) (K:SV->Prop):Prop :=
 match s with
 | .tup cs=>ZoP cs i K
 |_=>False
variable {s:SV}
theorem ZFU (q:den E s v) {i:Nat} (H:ZKU s i K):∃u r,(∀w,(Instr.extract v i).run P w=.ok u w)/\den E r u/\K r:=by
 unfold ZKU at H;split at H
 ·simp only[den]at q
  obtain⟨vs,rfl,N⟩:=q;obtain⟨r,u,d,f,g,_⟩:=ZdB _ _ N H;exact⟨u,r,λw=>by simp[Instr.extract,d],f,g⟩
 ·exact H.elim
def bytesOf (d:List Int):List UInt8:=d.map λn=>UInt8.ofNat n.toNat
def ZEv (T t:TI) (x:SV) (H:List Entry) (K:SV->Prop):Prop :=
 match t.kind,x with
 | .int k,.int _ n=>K (.int k (k.wrap n))
 | .str,.str s=>K (.str s)
 |_,_=>False
variable {b:TI}
theorem ZB7 {S:TypeId} (q:ZeP P S b) (r:ZeP P T t) (l:den E x v) (h:ZEv b t x H K) :
  ∃u s,(∀w,(convert S T v).run P w=.ok u w)/\den E s u/\K s:=by
 unfold ZEv at h;obtain⟨d,a,_⟩:=q.get;split at h
 ·rename_i k c n N
  simp only[den]at l;subst l;refine⟨_,_,?_,Zcz E k _,h⟩;have f:=r.intOf N;intro w;unfold convert;rw[Sem.run_bind,run_underlying a,Result.andThen_ok,Sem.run_bind,run_underlying f,Result.andThen_ok];cases d<;>rfl
 ·rename_i s N
  simp only[den]at l;subst l;refine⟨_,_,?_,Znx E s,h⟩;have f:=r.string N;intro w;unfold convert;rw[Sem.run_bind,run_underlying a,Result.andThen_ok,Sem.run_bind,run_underlying f,Result.andThen_ok];cases d<;>rfl
 ·exact h.elim
def Zzf (e:TI) (x:SV) (H:List Entry) (K:SV->Prop):Prop :=
 match e.kind with
 | .int .u8=>ZG4 x H (λt d=>if h:t=.int .u8 then ZxJ h d λD=>K (.str (bytesOf D))else False) (K (.str []))
 |_=>False
theorem ZoD {S:Nat->Prop} {w:World}:∀(d:List Int) (xs:List Value),Vt (rep S w (.int .u8)) d xs->xs=d.map (Value.int .u8)
 |[],xs,h=>by cases h;rfl
 |n::d,_,⟨v1,v,e,a,f⟩=>by
  have:=ZoD d v f;subst e;subst this;have H:v1=[.int .u8 n]:=a;subst H;rfl
theorem ZpL:∀(d:List Int) (s:List UInt8),d.foldl (λ(r:ByteArray) n=>r.push (UInt8.ofNat n.toNat)) (⟨s.toArray⟩:ByteArray)=⟨(s++bytesOf d).toArray⟩
 |[],s=>by simp[bytesOf]
 |n::d,s=>by
  have h:=ZpL d (s++[UInt8.ofNat n.toNat]);have e:(⟨s.toArray⟩:ByteArray).push (UInt8.ofNat n.toNat)=⟨(s++[UInt8.ofNat n.toNat]).toArray⟩:=by
   simp[ByteArray.push]
  rw[List.foldl_cons,e,h];simp[bytesOf]
theorem Zzg (z:Inv B E H) {S:TypeId} {m q y:TI} (I:ZeP P S m) (g:m.kind=.sl) (J:ZeP P T q) (i:q.kind=.str) (k:ZeP P m.elem y) (L:den E x v) (h:Zzf y x H K):∃u s,(convert S T v).run P E.w=.ok u E.w/\den E s u/\K s:=by
 unfold Zzf at h;split at h
 ·rename_i f
  obtain⟨p,_⟩:=I.slice g;have n:=k.intOf f;have r:=J.string i;have nil:v=.slice none 0 0->(convert S T v).run P E.w=.ok (.string ⟨([]:List UInt8).toArray⟩) E.w:=by
   rintro rfl;rw[run_convert_bytes_string _ _ _ _ _ _ _ p n r];rfl
  rcases Zv4 z L h with⟨t,d,D,h⟩|⟨e,h⟩
  ·split at h
   ·rename_i b;subst b
    rw[Zwq]at h;rcases D with⟨e,N⟩|⟨A,c,xs,e,l,C,G⟩
    ·subst N
     exact⟨_,_,nil e,Znx E _,h⟩
    ·have F:=ZoD _ _ G
     subst e;refine⟨_,_,?_,Znx E _,h⟩;rw[run_convert_bytes_string _ _ _ _ _ _ _ p n r];have a:=run_loadCells_list (P:=P) E.w A xs C;have j:xs.length=d.length:=by simpa[Ty.size]using l
     rw[j,F]at a;rw[run_bytesToString _ _ _ _ _ a];have o:=ZpL d [];rw[Uw]at o;rw[<-o];rfl
   ·exact h.elim
  ·exact⟨_,_,nil e,Znx E _,h⟩
 ·exact h.elim
def int64?:SV->Option Int
 | .int .i64 n=>some n
 |_=>none
def Zua:List SV->Option (List Int)
 |[]=>some []
 |c::r=>match int64? c,Zua r with
  |some n,some l=>some (n::l)
  |_,_=>none
theorem ZCz {c:SV} {n:Int} (h:int64? c=some n):c=.int .i64 n:=by
 unfold int64? at h;split at h
 ·injection h with h;subst h;rfl
 ·cases h
theorem Zub {E:Env}:∀(cs:List SV) {l:List Int},Zua cs=some l->∀vs,Yu E cs vs->vs=l.map (λn=>Value.int .i64 n)
 |[],l,h,vs,N=>by
  simp only[Zua,Option.some.injEq]at h;subst h;cases vs with
  |nil=>rfl
  |cons v vs=>simp[Yu]at N
 |c::cs,l,h,vs,N=>by
  cases vs with
  |nil=>simp[Yu]at N
  |cons v vs =>
   simp only[Yu]at N;obtain⟨d,f⟩:=N;unfold Zua at h;split at h
   ·rename_i n l' e i
    injection h with h
    subst h;have:=ZCz e;subst this;simp only[den]at d;subst d;rw[Zub cs i vs f];rfl
   ·cases h
def ZBm (t:TI) (s S:SV) (K:SV->Prop):Prop :=
 match t.kind,s,S with
 | .str,.str l,.int _ i=>Zlu l i λc=>K (.int .u8 (c.toNat:Int))
 | .arr n,.agg cs,.int _ i=>match Zua cs with
  |some l=>if(!t.eagg&&t.esize==1&&l.length==n)=true then Zlu l i λc=>K (.int .i64 c)else False
  |none=>False
 |_,_,_=>False
theorem ZBn (h:ZeP P T b) {S:SV} {V:Value} (f:den E s v) (N:den E S V) (H:ZBm b s S K) :
  ∃u r,(∀w,(Instr.index T v V).run P w=.ok u w)/\den E r u/\K r:=by
 unfold ZBm at H;split at H
 ·rename_i l k i o
  simp only[den]at f N;subst f;subst N;obtain⟨m,F,j⟩:=H;obtain⟨c,q⟩:∃c,l[i.toNat]?=some c:=⟨_,Ub (by omega)⟩;refine⟨_,_,?_,Zcz E .u8 _,j c q⟩;have B:=h.string o;have t:i.toNat<(⟨l.toArray⟩:ByteArray).size:=by simp[ByteArray.size];omega
  have G:(⟨l.toArray⟩:ByteArray)[i.toNat]?=some c:=by
   have Q:(⟨l.toArray⟩:ByteArray)[i.toNat]'t=c:=by
    have:=(Ua.1 q).2;rw[<-this];rfl
   rw[<-Q];exact getElem?_pos (⟨l.toArray⟩:ByteArray) i.toNat t
  intro w;simp[Instr.index,asIntOf,run_underlying B,m,G]
 ·rename_i n cs k i o
  simp only[den]at f N;obtain⟨vs,rfl,x⟩:=f;subst N;split at H
  ·rename_i l L
   split at H
   ·rename_i D
    simp only[Ur,UT,Kl]at D;obtain⟨⟨y,z⟩,M⟩:=D;have O:=Zub cs L vs x;obtain⟨m,F,j⟩:=H;obtain⟨c,q⟩:∃c,l[i.toNat]?=some c:=⟨_,Ub (by omega)⟩;refine⟨_,_,?_,Zcz E .i64 c,j c q⟩;obtain⟨B,p,I,J,A,_,_⟩:=h.array o;have e:∀w,(isAgg b.elem).run P w=.ok false w:=by
     intro w;cases C:P.underlying b.elem with
     |none=>simp[C]at p
     |some d =>
      rw[C]at p;have p:ZjE d=b.eagg:=by simpa using p
      rw[y]at p;unfold isAgg;rw[Sem.run_bind,run_underlying C];simp only[Result.andThen_ok,<-p];cases d<;>rfl
    have a:vs[i.toNat*I.size]?=some (.int .i64 c):=by
     rw[A,z,Nat.mul_one,O];simp[q]
    have g:i<(n:Int):=by omega
    intro w;simp[Instr.index,asIntOf,run_underlying B,m,g,part,e,run_sizeOf J,a]
   ·exact H.elim
  ·exact H.elim
 ·exact H.elim
def Ziz (r:List SV) (o:Option Operand) (d:Int) (K:Int->Prop):Prop :=
 match o with
 |none=>K d
 |some x=>Za1 r x λs=>match s with
  | .int _ n=>K n
  |_=>False
def ZuF (T:TI) (r:List SV) (x:SV) (o i:Option Operand) (H:List Entry) (K:SV->List Entry->Prop):Prop :=
 match T.kind with
 | .sl=>match x with
  | .sl t d=>if t.size=T.esize then Ziz r o 0 λl=>Ziz r i d.length λh=>0<=l/\l<=h/\h<=(d.length:Int)/\K (.sl t ((d.drop l.toNat).take (h.toNat-l.toNat))) H else False
  | .own I=>ZiG H I λe=>match e with
   | .arr _ t d=>if t.size=T.esize then Ziz r o 0 λl=>Ziz r i d.length λh=>0<=l/\l<=h/\h<=(d.length:Int)/\
     ZjD H I (.frz t d) λH'=>K (.sl t ((d.drop l.toNat).take (h.toNat-l.toNat))) H' else False
   | .frz t d=>if t.size=T.esize then Ziz r o 0 λl=>Ziz r i d.length λh=>0<=l/\l<=h/\h<=(d.length:Int)/\K (.sl t ((d.drop l.toNat).take (h.toNat-l.toNat))) H else False
   |_=>False
  | .nsl=>Ziz r o 0 λl=>Ziz r i 0 λh=>l=0/\h=0/\K .nsl H
  |_=>False
 | .str=>match x with
  | .str s=>Ziz r o 0 λl=>Ziz r i s.length λh=>0<=l/\l<=h/\h<=(s.length:Int)/\K (.str ((s.drop l.toNat).take (h.toNat-l.toNat))) H
  |_=>False
 |_=>False
variable {a:Act}
theorem ZcR {r:List SV} (N:Yu E r a.tmps.toList) {o:Option Operand} {d:Int} {K:Int->Prop} (h:Ziz r o d K) :
  ∃n,K n/\(o=none/\n=d\/∃k,o.map a.eval=some (.int k n)):=by
 unfold Ziz at h;split at h
 ·exact⟨d,h,.inl ⟨rfl,rfl⟩⟩
 ·rename_i x
  obtain⟨s,q,h⟩:=YU N h;split at h
  ·rename_i k n
   simp only[den]at q;exact⟨n,h,.inr ⟨k,by simp[q]⟩⟩
  ·exact h.elim
variable (w:World)
theorem run_sliceBound (k:IntKind) (n:Int) (y:Nat) (c:BoundsCode) (m:0<=n) (d:n<=(y:Int):=by omega):(Instr.sliceBound (.int k n) y c).run P w=.ok n.toNat w:=by
 have:0<=n/\n<=(y:Int):=⟨m,d⟩;simp[Instr.sliceBound,asIntOf,this]
theorem ZfZ (sl:Bool) (len p:Nat) (o i:Option Value) (l h:Int) (m:0<=l) (d:l<=h) (f:h<=(p:Int))
  (q:o=none/\l=0\/∃k,o=some (.int k l)) (r:i=none/\h=(len:Int)\/∃k,i=some (.int k h)) :
  (Instr.sliceBounds sl len p o i none).run P w=.ok (l.toNat,h.toNat,p) w:=by
 have E:∀c,(match i with|some v=>Instr.sliceBound v p c|none=>pure len:Sem Nat).run P w=.ok h.toNat w:=by
  intro c;rcases r with⟨rfl,rfl⟩|⟨k,rfl⟩
  ·simp
  ·exact run_sliceBound w k h p _ (by omega) f
 have e:∀c,(match o with|some v=>Instr.sliceBound v h.toNat c|none=>pure 0:Sem Nat).run P w=.ok l.toNat w:=by
  intro c;rcases q with⟨rfl,rfl⟩|⟨k,rfl⟩
  ·simp
  ·exact run_sliceBound w k l _ _ m
 rcases r with⟨rfl,rfl⟩|⟨k,rfl⟩
 ·rcases q with⟨rfl,rfl⟩|⟨K,rfl⟩
  ·simp[Instr.sliceBounds]
  ·simp[Instr.sliceBounds,run_sliceBound w K l _ _ m d]
 ·have a:=run_sliceBound (P:=P) w k h p (if sl then .sliceAcap else .sliceAlen) (by omega) f
  rcases q with⟨rfl,rfl⟩|⟨K,rfl⟩
  ·simp[Instr.sliceBounds,a]
  ·have A:=run_sliceBound (P:=P) w K l h.toNat .sliceB m
   simp[Instr.sliceBounds,a,A]
theorem ZDa {S:Nat->Prop} {w:World} {t:Ty} {d:List t.den} {a:Option Addr} {n c:Nat} (h:rep S w (.sl t) d [.slice a n c]) (l b:Nat) (r:l<=b:=by omega) (o:b<=d.length:=by omega) :
  n=d.length/\d.length<=c/\rep S w (.sl t) ((d.drop l).take (b-l)) [.slice (if c=l then a else a.map (·.add (l*t.size))) (b-l) (c-l)]:=by
 obtain⟨A,C,E,i,k,g⟩:=h;simp at E;obtain⟨rfl,rfl,rfl⟩:=E;refine⟨rfl,i,?_⟩;have H:((d.drop l).take (b-l)).length=b-l:=by simp;omega
 refine⟨_,c-l,by rw[H],by rw[H];omega,λe=>?_,?_⟩
 ·split at e
  ·have:=k e;omega
  ·cases a with
   |none=>have:=k rfl;omega
   |some p=>simp at e
 ·by_cases v:b=l
  ·exact .inl (UI (by rw[H];omega))
  ·rcases g with g|⟨p,xs,rfl,m,s,q,F⟩
   ·subst g;simp at o;omega
   ·refine .inr ⟨p.add (l*t.size),(xs.drop (l*t.size)).take ((b-l)*t.size),?_,Zr6 _ _ m,by rw[add_block];exact s,λj u f=>?_,?_⟩
    ·rw[QQ];rfl
    ·rw[add_add _ _ _ m]
     rw[UB]at f;split at f
     ·exact q _ u (by simpa using f)
     ·cases f
    ·have:=Zmd (λd vs=>QD t d vs) _ _ F l
     exact Zme (λd vs=>QD t d vs) _ _ this (b-l)
theorem Zqw (J:Inv B E H) {R:List SV} (N:Yu E R a.tmps.toList) {U:TI} (h:ZeP P T U) (C:den E x v)
  {O L:Option Operand} {K:SV->List Entry->Prop} (b:ZuF U R x O L H K) :
  ∃u E' H' s,(Instr.sliceAt T v (O.map a.eval) (L.map a.eval) none).run P E.w=.ok u E'.w/\Inv B E' H'/\E.le E'/\den E' s u/\K s H'/\Grow E.w E'.w:=by
 unfold ZuF at b;have c:∀{o:Option Operand} {n d:Int},(o=none/\n=d\/∃k,o.map a.eval=some (.int k n))->(o.map a.eval=none/\n=d\/∃k,o.map a.eval=some (.int k n)):=by
  intro o n d r;rcases r with⟨rfl,e⟩|r
  ·exact .inl ⟨rfl,e⟩
  ·exact .inr r
 have core:U.kind=.sl->∀(E1:Env) (t:Ty) (d:List t.den),t.size=U.esize->rep E1.S E1.w (.sl t) d [v]->∀l h:Int,0<=l->l<=h->h<=(d.length:Int)->
   (O.map a.eval=none/\l=0\/∃k,O.map a.eval=some (.int k l))->(L.map a.eval=none/\h=(d.length:Int)\/∃k,L.map a.eval=some (.int k h))->
   ∃u,(Instr.sliceAt T v (O.map a.eval) (L.map a.eval) none).run P E1.w=.ok u E1.w/\den E1 (.sl t ((d.drop l.toNat).take (h.toNat-l.toNat))) u:=by
  intro f E1 t d i I l j y z D q r;obtain⟨M,_,Y,F,A,_⟩:=h.slice f;obtain⟨a0,p,Q,G,hn,Z⟩:=I;simp at Q;subst Q;obtain⟨_,_,W⟩:=ZDa (⟨a0,p,rfl,G,hn,Z⟩:rep E1.S E1.w (.sl t) d [.slice a0 d.length p]) l.toNat j.toNat;refine⟨.slice (if p=l.toNat then a0 else a0.map (·.add (l.toNat*Y.size))) (j.toNat-l.toNat) (p-l.toNat),?_,?_⟩
  ·simp only[Instr.sliceAt,Instr.slice,Sem.run_bind,run_underlying M,Result.andThen_ok]
   rw[ZfZ E1.w true d.length p _ _ l j y z (by omega) q r];simp only[Result.andThen_ok,run_sizeOf F];rfl
  ·simp only[den]
   rw[A,<-i];exact W
 split at b
 ·rename_i f
  split at b
  ·rename_i t d
   split at b
   ·rename_i i
    obtain⟨l,b,q⟩:=ZcR N b;obtain⟨j,b,r⟩:=ZcR N b;obtain⟨y,z,D,b⟩:=b;simp only[den]at C;obtain⟨u,I,g⟩:=core f E t d i C l j y z D (c q) (c r);exact⟨u,E,H,_,I,J,Env.le.refl E,g,b,Grow.refl _⟩
   ·exact b.elim
  ·rename_i id
   obtain⟨en,X,b⟩:=XB H b;simp only[den]at C;split at b
   ·rename_i et t d
    split at b
    ·rename_i i
     obtain⟨l,b,q⟩:=ZcR N b;obtain⟨j,b,r⟩:=ZcR N b;obtain⟨y,z,D,b⟩:=b;rw[Qa]at b;obtain⟨S',G,V,I,_⟩:=J.freeze X C.1;obtain⟨u,m,g⟩:=core f ⟨S',E.w,E.ids⟩ t d i I l j y z D (c q) (c r);exact⟨u,_,_,_,m,V,G,g,b,Grow.refl _⟩
    ·exact b.elim
   ·rename_i t d
    split at b
    ·rename_i i
     obtain⟨l,b,q⟩:=ZcR N b;obtain⟨j,b,r⟩:=ZcR N b;obtain⟨y,z,D,b⟩:=b;obtain⟨v',Q,I⟩:=J.ent id _ X;have:=C.1.symm.trans Q;simp at this;subst this;obtain⟨u,m,g⟩:=core f E t d i I l j y z D (c q) (c r);exact⟨u,E,H,_,m,J,Env.le.refl E,g,b,Grow.refl _⟩
    ·exact b.elim
   ·exact b.elim
  ·obtain⟨l,b,q⟩:=ZcR N b
   obtain⟨j,b,r⟩:=ZcR N b;obtain⟨rfl,rfl,b⟩:=b;simp only[den]at C;subst C;obtain⟨M,_,Y,F,A,_⟩:=h.slice f;refine⟨.slice none 0 0,E,H,.nsl,?_,J,Env.le.refl E,by simp only[den],b,Grow.refl _⟩;simp only[Instr.sliceAt,Instr.slice,Sem.run_bind,run_underlying M,Result.andThen_ok];rw[ZfZ E.w true 0 0 _ _ 0 0 (by omega) (by omega) (by omega) (c q) (c r)];simp[run_sizeOf F]
  ·exact b.elim
 ·rename_i f
  split at b
  ·rename_i s
   obtain⟨l,b,q⟩:=ZcR N b;obtain⟨j,b,r⟩:=ZcR N b;obtain⟨y,z,D,b⟩:=b;simp only[den]at C;subst C;have M:=h.string f;have A:(⟨s.toArray⟩:ByteArray).size=s.length:=by simp[ByteArray.size]
   refine⟨_,E,H,_,?_,J,Env.le.refl E,Znx E _,b,Grow.refl _⟩;simp only[Instr.sliceAt,Instr.slice,Sem.run_bind,run_underlying M,Result.andThen_ok,Option.isSome_none,Ka,Uh,A];rw[ZfZ E.w false s.length s.length _ _ l j y z D (c q) (c r)];simp only[Result.andThen_ok,Sem.run_pure];congr 2;apply ByteArray.ext;simp[ByteArray.data_extract,List.extract_toArray,List.extract_eq_take_drop]
  ·exact b.elim
 ·exact b.elim
end
theorem Zn3 {S:Nat->Prop} {w:World} {t:Ty}:∀(l:List t.den) (xs:List Value) (f:List Nat),Zcp (Zi4 S w (.flat t)) l xs f->f=[]/\Vt (rep S w t) l xs
 |[],xs,f,h=>⟨h.2,h.1⟩
 |d::l,xs,f,⟨v1,v,F,a,e,E,r,s⟩=>by
  obtain⟨H,b⟩:=Zn3 l v a s;have g:F=[]:=r.1;exact⟨by rw[E,H,g];rfl,v1,v,e,r.2,b⟩
theorem ZoC {S:Nat->Prop} {w:World} {t:Ty}:∀(l:List t.den) (xs:List Value),Vt (rep S w t) l xs->Zcp (Zi4 S w (.flat t)) l xs []
 |[],xs,h=>⟨h,rfl⟩
 |d::l,xs,⟨v1,v,e,r,s⟩=>⟨v1,v,[],[],e,rfl,⟨rfl,r⟩,ZoC l v s⟩
def Jd:(e:Dp)->e.ty.den->List Entry->(List SV->List Entry->Prop)->Prop
 | .flat t,x,H,K=>JE t x λcs=>K cs H
 | .ol g (.flat t),l,H,K=>ZiM g t l H λs H'=>K [s] H'
 | .ol g (.ol E e),l,H,K=>∀f:List Nat,ZvA H 0 λn=>ZtB H [.darr g (.ol E e) l f] λH'=>K [.own n] H'
 | .ol g (.pair a b),l,H,K=>∀f:List Nat,ZvA H 0 λn=>ZtB H [.darr g (.pair a b) l f] λH'=>K [.own n] H'
 | .ol g (.mp k v),l,H,K=>∀f:List Nat,ZvA H 0 λn=>ZtB H [.darr g (.mp k v) l f] λH'=>K [.own n] H'
 | .mp k v,d,H,K=>ZvA H 0 λn=>ZtB H [.mpe k v d] λH'=>K [.mown n] H'
 | .pair a b,d,H,K=>Zr d λx y=>Jd a x H λc1 H1=>Jd b y H1 λc2 H2=>ZtB c1 c2 λcs=>K cs H2
variable {E:Env} {I:Nat}
theorem Zqk {e:TypeId} {z n:Nat} {v:Value} {xs:List Value} (h:E.ids[I]?=some v) (x:E.w.Zaf 0 e z v n xs):den E (.own I) v:=by
 simp only[den];refine⟨h,?_⟩;rcases x.2 with⟨rfl,_⟩|⟨g,c,cur,o,rfl,_⟩
 ·exact⟨_,_,_,rfl⟩
 ·exact⟨_,_,_,rfl⟩
theorem Zas {B:Base}:∀(e:Dp) (x:e.ty.den) {E:Env} {H:List Entry} (_:Inv B E H) {vs:List Value} {f gs:List Nat} (_:Zi4 E.S E.w e x vs f) (_:Loose B E H (f++gs)) {K:List SV->List Entry->Prop} (_:Jd e x H K),
  ∃E' H' cs,E'.w=E.w/\E'.S=E.S/\Inv B E' H'/\E.le E'/\Yu E' cs vs/\K cs H'/\Loose B E' H' gs/\∃l,H'=H++l
 | .flat t,x,E,H,m,vs,f,gs,⟨k,F⟩,o,K,h=>by
  simp only[Jd,QS]at h;subst k;exact⟨E,H,_,rfl,rfl,m,Env.le.refl E,Qg t x vs F,h,o,[],by simp⟩
 | .ol u (.flat t),l,E,H,m,vs,f,gs,⟨v,xs,s,k,p,F,n⟩,o,K,h=>by
  simp only[Jd,ZiM,Zek,Zde,Us]at h;obtain⟨X,D⟩:=Zn3 _ _ _ F;have c:(E.ids++[v])[H.length]?=some v:=by rw[<-m.len];simp
  obtain ⟨q,i⟩:=o.push m v (.arr u t l) (λ_ g j=>by
   have j:Y4 v=some g:=j;rw[n];simp[j]) ⟨v,xs,c,p,D⟩
  exact⟨⟨E.S,E.w,E.ids++[v]⟩,_,_,rfl,rfl,q,ZlM E v,by subst k;exact⟨Zqk c p,trivial⟩,h,i,_,rfl⟩
 | .ol u (.ol A e),l,E,H,m,vs,f,gs,⟨v,xs,s,k,p,F,n⟩,o,K,h=>by
  simp only[Jd]at h;have h:=h f;simp only[Zek,Zde,Us]at h;have c:(E.ids++[v])[H.length]?=some v:=by rw[<-m.len];simp
  obtain⟨q,i⟩:=o.push m v (.darr u (.ol A e) l f) (λ_ g j=>j) ⟨v,xs,s,c,p,F,n,(U2.1 o.nodup).1⟩;exact⟨⟨E.S,E.w,E.ids++[v]⟩,_,_,rfl,rfl,q,ZlM E v,by subst k;exact⟨Zqk c p,trivial⟩,h,i,_,rfl⟩
 | .ol u (.pair a b),l,E,H,m,vs,f,gs,⟨v,xs,s,k,p,F,n⟩,o,K,h=>by
  simp only[Jd]at h;have h:=h f;simp only[Zek,Zde,Us]at h;have c:(E.ids++[v])[H.length]?=some v:=by rw[<-m.len];simp
  obtain⟨q,i⟩:=o.push m v (.darr u (.pair a b) l f) (λ_ g j=>j) ⟨v,xs,s,c,p,F,n,(U2.1 o.nodup).1⟩;exact⟨⟨E.S,E.w,E.ids++[v]⟩,_,_,rfl,rfl,q,ZlM E v,by subst k;exact⟨Zqk c p,trivial⟩,h,i,_,rfl⟩
 | .ol u (.mp V W),l,E,H,m,vs,f,gs,⟨v,xs,s,k,p,F,n⟩,o,K,h=>by
  simp only[Jd]at h;have h:=h f;simp only[Zek,Zde,Us]at h;have c:(E.ids++[v])[H.length]?=some v:=by rw[<-m.len];simp
  obtain⟨q,i⟩:=o.push m v (.darr u (.mp V W) l f) (λ_ g j=>j) ⟨v,xs,s,c,p,F,n,(U2.1 o.nodup).1⟩;exact⟨⟨E.S,E.w,E.ids++[v]⟩,_,_,rfl,rfl,q,ZlM E v,by subst k;exact⟨Zqk c p,trivial⟩,h,i,_,rfl⟩
 | .mp V W,d,E,H,m,vs,f,gs,⟨b,Y,C,k,n,hh,F⟩,o,K,h=>by
  simp only[Jd,Zek,Zde,Us]at h;have c:(E.ids++[(.map (some b):Value)])[H.length]?=some (.map (some b)):=by rw[<-m.len];simp
  obtain ⟨q,i⟩:=o.push m (.map (some b)) (.mpe V W d) (λ_ g j=>by
   have j:Y4 (.map (some b))=some g:=j;simp[Y4] at j;rw[n];simp[j]) ⟨b,Y,C,c,hh,F⟩
  exact⟨⟨E.S,E.w,E.ids++[.map (some b)]⟩,_,_,rfl,rfl,q,ZlM E _,by subst k;exact⟨by simp only[den];exact⟨c,_,rfl⟩,trivial⟩,h,i,_,rfl⟩
 | .pair a b,d,E,H,m,vs,f,gs,⟨v1,v2,f1,Z,k,n,X,D⟩,o,K,h=>by
  simp only[Jd,Zag]at h;subst k;subst n;rw[Uj]at o;obtain⟨E1,H1,c1,z,y,J,G,P,h,M,l1,R⟩:=Zas a d.1 m X o h;have I:Zi4 E1.S E1.w b d.2 v2 Z:=by rw[y,z];exact D
  obtain⟨E2,H2,c2,U,O,L,r,Q,h,N,l2,T⟩:=Zas b d.2 J I M h;rw[Zde]at h;exact⟨E2,H2,_,U.trans z,O.trans y,L,G.trans r,Zdz _ _ (ZX r _ _ P) _ _ Q,h,N,l1++l2,by rw[T,R,Uj]⟩
def ZE4 (g:TypeId):(e:Dp)->Nat->List e.ty.den->List Entry->(List Entry->Prop)->Prop
 | .flat t,I,d,H,K=>ZjD H I (.arr g t d) K
 | .ol E e,I,d,H,K=>∀f:List Nat,ZjD H I (.darr g (.ol E e) d f) K
 | .pair a b,I,d,H,K=>∀f:List Nat,ZjD H I (.darr g (.pair a b) d f) K
 | .mp k v,I,d,H,K=>∀f:List Nat,ZjD H I (.darr g (.mp k v) d f) K
theorem ZAR {B:Base} {r:TypeId}:∀(e:Dp) {E:Env} {H:List Entry} (_:Inv B E H) {I:Nat} {v:Value} (_:I<H.length) (_:E.ids[I]?=some v) {d:List e.ty.den} {f gs:List Nat} (_:Zi4 E.S E.w (.ol r e) d [v] f) (_:Loose B E H (f++gs)) {K:List Entry->Prop} (_:ZE4 r e I d H K),
  ∃u,Inv B E (H.set I u)/\Loose B E (H.set I u) gs/\K (H.set I u)/\(∀c,u≠.box c)
 | .flat t,E,H,p,I,v,i,l,d,f,gs,⟨v',xs,s,j,q,F,n⟩,o,K,k=>by
  simp only[ZE4,Qa] at k;simp at j;subst j;obtain ⟨D,A⟩:=Zn3 _ _ _ F;obtain ⟨a,b⟩:=o.put p i l (.arr r t d) (λ_ g m=>by
   have m:Y4 v=some g:=m;rw[n];simp[m]) ⟨v,xs,l,q,A⟩
  exact⟨_,a,b,k,λc h=>by cases h⟩
 | .ol z e,E,H,p,I,v,i,l,d,f,gs,⟨v',xs,s,j,q,F,n⟩,o,K,k=>by
  simp only[ZE4]at k;have k:=k f;rw[Qa]at k;simp at j;subst j;obtain⟨a,b⟩:=o.put p i l (.darr r (.ol z e) d f) (λ_ g m=>m) ⟨v,xs,s,l,q,F,n,(U2.1 o.nodup).1⟩;exact⟨_,a,b,k,λc h=>by cases h⟩
 | .mp C V,E,H,p,I,v,i,l,d,f,gs,⟨v',xs,s,j,q,F,n⟩,o,K,k=>by
  simp only[ZE4]at k;have k:=k f;rw[Qa]at k;simp at j;subst j;obtain⟨x,y⟩:=o.put p i l (.darr r (.mp C V) d f) (λ_ g m=>m) ⟨v,xs,s,l,q,F,n,(U2.1 o.nodup).1⟩;exact⟨_,x,y,k,λc h=>by cases h⟩
 | .pair a b,E,H,p,I,v,i,l,d,f,gs,⟨v',xs,s,j,q,F,n⟩,o,K,k=>by
  simp only[ZE4]at k;have k:=k f;rw[Qa]at k;simp at j;subst j;obtain⟨x,y⟩:=o.put p i l (.darr r (.pair a b) d f) (λ_ g m=>m) ⟨v,xs,s,l,q,F,n,(U2.1 o.nodup).1⟩;exact⟨_,x,y,k,λc h=>by cases h⟩
def Zvc {E e:Dp} (h:E=e) (d:List E.ty.den) (K:List e.ty.den->Prop):Prop:=Eq.rec (motive:=λe _=>(List e.ty.den->Prop)->Prop) (λK=>K d) h K
variable {e:Dp}
theorem Zlb {E:Dp} (h:E=e) (d:List E.ty.den) (K:List e.ty.den->Prop):Zvc h d K=K (h▸d):=by subst h;rfl
def ZuL:Nat->List SV->(List SV->List SV->Prop)->Prop
 |0,cs,K=>K [] cs
 |n+1,cs,K=>match cs with
  |c::cs=>ZuL n cs λa b=>K (c::a) b
  |[]=>False
theorem ZuM {E:Env}:∀(n:Nat) (cs:List SV) (vs:List Value),Yu E cs vs->∀{K:List SV->List SV->Prop},ZuL n cs K->∃a b V d,vs=V++d/\Yu E a V/\Yu E b d/\K a b
 |0,cs,vs,N,K,H=>⟨[],cs,[],vs,rfl,trivial,N,H⟩
 |n+1,[],vs,N,K,H=>by simp only[ZuL]at H
 |n+1,c::cs,vs,N,K,H=>by
  match vs,N with
  |v::vs,N =>
   simp only[Yu]at N;simp only[ZuL]at H;obtain⟨a,b,V,d,e,h,f,g⟩:=ZuM n cs vs N.2 H;exact⟨c::a,b,v::V,d,by rw[e];rfl,⟨N.1,h⟩,f,g⟩
  |[],N=>simp[Yu]at N
def Zax:(e:Dp)->List SV->List Entry->(e.ty.den->List SV->List Entry->Prop)->Prop
 | .flat t,cs,H,K=>ZuL t.size cs λc1 c2=>JR c1 H λC H'=>QC t C λd rest=>match rest with
   |[]=>K d c2 H'
   |_=>False
 | .ol g e,cs,H,K=>match cs with
   |s::r=>match s with
    | .nsl=>K [] r H
    | .own I=>ZiG H I λM=>match M with
     | .arr E t d=>if h:Dp.flat t=e then(if E=g then ZjD H I .gone λH'=>Zvc h d λD=>K D r H' else False)else False
     | .darr E c d _=>if h:c=e then(if E=g then ZjD H I .gone λH'=>Zvc h d λD=>K D r H' else False)else False
     | .hole E c d i cells _=>if h:c=e then (if E=g then ZjD H I .gone λH0=>Zvc h d λD=>Zax e cells H0 λx rest H1=>match rest with
       |[]=>K (D.set i.toNat x) r H1
       |_=>False
      else False) else False
     | .spl E c d n _=>if h:c=e then(if E=g then(n=(d.length:Int)/\ZjD H I .gone λH'=>Zvc h d λD=>K D r H')else False)else False
     |_=>False
    |_=>False
   |[]=>False
 | .mp k v,cs,H,K=>match cs with
   |s::r=>match s with
    | .mown I=>ZiG H I λM=>match M with
     | .mpe f v' d=>if h:f=k then(if h':v'=v then ZjD H I .gone λH'=>ZGE h h' d λD=>K D r H' else False)else False
     |_=>False
    |_=>False
   |[]=>False
 | .pair a b,cs,H,K=>Zax a cs H λx r H1=>Zax b r H1 λy R H2=>K (x,y) R H2
def Closed (B:Base) (e:Dp) (E:Env) (H:List Entry) (vs:List Value) (gs:List Nat) (K:e.ty.den->List SV->List Entry->Prop):Prop :=
 ∃E' H' x rest v1 v f,Frz E H E' H'/\Inv B E' H'/\vs=v1++v/\Zi4 E'.S E'.w e x v1 f/\Yu E' rest v/\K x rest H'/\Loose B E' H' (f++gs)/\ZlE E H H' f/\∀(i:Nat) (c:List SV),H[i]?=some (.box c)->H'[i]?=some (.box c)
variable {H:List Entry}
theorem Zz6 {E:Entry} (h:H[I]?=some E):(H.set I .gone)[I]?=some .gone:=UG (Ua.1 h).1
theorem ZkC {E e:Entry} (h:H[I]?=some E) (b:∀c,E≠.box c):∀(i:Nat) (c:List SV),H[i]?=some (.box c)->(H.set I e)[i]?=some (.box c):=by
 intro i c l;by_cases a:I=i
 ·subst a;rw[h]at l;simp at l;exact absurd l (b c)
 ·rw[UF a];exact l
theorem ZdX {B:Base}:∀(e:Dp) (cs:List SV) {E:Env} {H:List Entry} (_:Inv B E H) {vs:List Value} (_:Yu E cs vs) {gs:List Nat} (_:Loose B E H gs) {K:e.ty.den->List SV->List Entry->Prop} (_:Zax e cs H K),Closed B e E H vs gs K
 | .flat t,cs,E,H,C,vs,N,gs,U,K,l=>by
  simp only[Zax]at l;obtain⟨c1,c2,va,vb,F,h1,L,l⟩:=ZuM _ _ _ N l;obtain⟨E',H',a5,A,X,b5,l,hb⟩:=Vk c1 C h1 l;obtain⟨d,rest,u1,u2,e2,hr,D,l⟩:=Qj t a5 _ va b5 l;split at l
  ·have a2:u2=[]:=by cases u2 with
    |nil=>rfl
    |cons=>simp[Yu]at D
   subst a2;rw[Un]at e2;subst e2;exact⟨E',H',d,c2,va,vb,[],A,X,F,⟨rfl,hr⟩,ZX A.le _ _ L,l,U.frz A,ZlE.nil _ _ _,hb⟩
  ·exact l.elim
 | .ol et e,cs,E,H,C,vs,N,gs,U,K,l=>by
  simp only[Zax]at l;split at l
  ·rename_i s r
   match vs,N with
   |[],N=>simp[Yu]at N
   |v::vs,N =>
    simp only[Yu]at N;obtain⟨k,o⟩:=N;split at l
    ·simp only[den]at k;subst k
     exact⟨E,H,[],r,[_],vs,[],Frz.refl E H,C,rfl,⟨_,[],[],rfl,World.Zll _ _ _ _,⟨rfl,rfl⟩,rfl⟩,o,l,U,ZlE.nil _ _ _,λ_ _ h=>h⟩
    ·rename_i I
     obtain⟨en,p,q⟩:=XB H l;clear l;simp only[den]at k;have T:∀(f:List Nat),en.live=true->f.Nodup->(∀g∈f,Zi9 en v g)->Frz E H E (H.set I .gone)/\Inv B E (H.set I .gone)/\Loose B E (H.set I .gone) (f++gs)/\ZlE E H (H.set I .gone) f:=by
      intro f hl a0 A;exact⟨Frz.one p hl k.1 rfl (Env.le.refl E) (λb hb=>.inl hb),C.drop I,U.take C p hl k.1 a0 A,λg m=>⟨I,en,v,p,hl,k.1,A g m,Zz6 p⟩⟩
     split at q
     ·rename_i W t d
      split at q
      ·rename_i R;subst R
       split at q
       ·rename_i u;subst u
        rw[Qa,Zlb] at q;obtain ⟨v',xs,F,L,h3⟩:=C.ent I _ p;have:=k.1.symm.trans F;simp at this;subst this;obtain ⟨V,t2,t3,t4⟩:=T (Y4 v).toList rfl (by cases Y4 v<;>simp) (λg m=>by
         show Y4 v=some g;simpa using m)
        exact⟨E,_,d,r,[v],vs,(Y4 v).toList,V,t2,rfl,⟨v,xs,[],rfl,L,ZoC _ _ h3,by simp⟩,o,q,t3,t4,ZkC p (λc h=>by cases h)⟩
       ·exact q.elim
      ·exact q.elim
     ·rename_i W e' d Q
      split at q
      ·rename_i R;subst R
       split at q
       ·rename_i u;subst u
        rw[Qa,Zlb]at q;obtain⟨v',xs,a7,F,L,h3,h4,h5⟩:=C.ent I _ p;have:=k.1.symm.trans F;simp at this;subst this;obtain⟨V,t2,t3,t4⟩:=T Q rfl h5 (λg m=>m);exact⟨E,_,d,r,[v],vs,Q,V,t2,rfl,⟨v,xs,a7,rfl,L,h3,h4⟩,o,q,t3,t4,ZkC p (λc h=>by cases h)⟩
       ·exact q.elim
      ·exact q.elim
     ·rename_i W e' d i cells Q
      split at q
      ·rename_i R;subst R
       split at q
       ·rename_i u;subst u
        rw[Qa,Zlb]at q;obtain⟨v',xs,x1,vx,x2,J,P,F,L,b9,d0,ex,el,b8,G,z,b6,ef,a0⟩:=C.ent I _ p;have:=k.1.symm.trans F;simp at this;subst this;obtain⟨V,t2,t3,t4⟩:=T Q rfl a0 (λg m=>m);obtain⟨E',H',x,rest,u1,u2,f,A,X,eu,b7,D,q,b0,hT,hb⟩:=ZdX e' cells t2 b6 t3 q;split at q
        ·have a2:u2=[]:=by cases u2 with
          |nil=>rfl
          |cons=>simp[Yu]at D
         subst a2;rw[Un]at eu;subst eu;have a1:(f++(Q++gs)).Perm ((Y4 v).toList++(J++f++P)++gs):=by
          rw[ef];refine List.Perm.trans ?_ (List.Perm.refl _);rw[<-Uj];refine List.Perm.append_right gs ?_;have:(f++((Y4 v).toList++J++P)).Perm ((Y4 v).toList++J++(f++P)):=by
           rw[<-Uj,<-Uj ((Y4 v).toList++J)];exact U0.append_right P
          refine this.trans ?_;simp[Uj]
         have O:∀(g:Nat),E'.w.heap[g]?=E.w.heap[g]?:=λg=>by rw[A.w]
         refine⟨E',H',d.set i.toNat x,r,[v],vs,(Y4 v).toList++(J++f++P),V.trans A,X,rfl,⟨v,x1++vx++x2,J++f++P,rfl,?_,?_,rfl⟩,ZX A.le _ _ o,q,b0.perm a1,?_,λj c hj=>hb j c (ZkC p (λc h=>by cases h) j c hj)⟩
         ·rw[UH,<-ex,A.w];exact L
         ·refine Zyk (by omega) (QE _ _ _ (λd vs f _=>Y5 A.le.S A.le.w e' d vs f (λg _=>O g)) G) b7 ?_
          exact QE _ _ _ (λd vs f _=>Y5 A.le.S A.le.w e' d vs f (λg _=>O g)) z
         ·have Y:ZlE E H H' Q:=t4.later A
          have Z:ZlE E H H' f:=ZlE.after V hT;refine(Y.append Z).sub (λg m=>?_);rw[ef];simp only[Uu]at m ⊢;rcases m with m|(m|m)|m
          ·exact .inl (.inl (.inl m))
          ·exact .inl (.inl (.inr m))
          ·exact .inr m
          ·exact .inl (.inr m)
        ·exact q.elim
       ·exact q.elim
      ·exact q.elim
     ·rename_i W e' d n Q
      split at q
      ·rename_i R;subst R
       split at q
       ·rename_i u;subst u
        obtain⟨hn,q⟩:=q;rw[Qa,Zlb]at q;obtain⟨v',F,⟨xs,x1,x2,J,L,h3,h4,ex,el,G,z,ef⟩,h5⟩:=C.ent I _ p;have:=k.1.symm.trans F;simp at this;subst this;have a4:n.toNat=d.length:=by omega
        rw[a4,Uq]at G;rw[a4,List.drop_length]at z;have z:x2=[]:=z;subst z;rw[Un]at ex;subst ex;obtain⟨V,t2,t3,t4⟩:=T Q rfl h5 (λg m=>m);exact⟨E,_,d,r,[v],vs,Q,V,t2,rfl,⟨v,xs,J,rfl,L,G,ef⟩,o,q,t3,t4,ZkC p (λc h=>by cases h)⟩
       ·exact q.elim
      ·exact q.elim
     ·exact q.elim
    ·exact l.elim
  ·exact l.elim
 | .mp kt vt,cs,E,H,C,vs,N,gs,U,K,l=>by
  simp only[Zax]at l;split at l
  ·rename_i s r
   match vs,N with
   |[],N=>simp[Yu]at N
   |v::vs,N =>
    simp only[Yu]at N;obtain⟨k,o⟩:=N;split at l
    ·rename_i I
     obtain⟨en,p,q⟩:=XB H l;clear l;simp only[den]at k;split at q
     ·rename_i k' v' d
      split at q
      ·rename_i R;subst R
       split at q
       ·rename_i u;subst u
        rw[Qa] at q;have q:K d r (H.set I .gone):=q;obtain ⟨b,es,a6,F,L,h3⟩:=C.ent I _ p;have:=k.1.symm.trans F;simp at this;subst this;exact ⟨E,_,d,r,[.map (some b)],vs,[b],Frz.one p rfl k.1 rfl (Env.le.refl E) (λb hb=>.inl hb),C.drop I,rfl,⟨b,es,a6,rfl,rfl,L,h3⟩,o,q,
         U.take C p rfl k.1 (by simp) (λg m=>by simp at m;subst m;rfl),λg m=>⟨I,_,_,p,rfl,k.1,by simp at m;subst m;rfl,Zz6 p⟩,ZkC p (λc h=>by cases h)⟩
       ·exact q.elim
      ·exact q.elim
     ·exact q.elim
    ·exact l.elim
  ·exact l.elim
 | .pair a b,cs,E,H,C,vs,N,gs,U,K,l=>by
  simp only[Zax]at l;obtain⟨E1,H1,x,r,v1,v2,J,a3,a8,F,G,k,l,b1,Y,b3⟩:=ZdX a cs C N U l;obtain⟨E2,H2,y,r',v3,v4,P,M,a9,e2,z,o,l,b2,Z,b4⟩:=ZdX b r a8 k b1 l;refine⟨E2,H2,(x,y),r',v1++v3,v4,J++P,a3.trans M,a9,by rw[F,e2,Uj],⟨v1,v3,J,P,rfl,rfl,?_,z⟩,o,l,?_,(Y.later M).append (ZlE.after a3 Z),λi c h=>b4 i c (b3 i c h)⟩
  ·exact Y5 M.le.S M.le.w a _ _ _ (λg _=>by rw[M.w]) G
  ·refine b2.perm ?_
   rw[<-Uj];exact U0.append_right gs
def closeAll (e:Dp) (cs:List SV) (H:List Entry) (K:e.ty.den->List Entry->Prop):Prop:=Zax e cs H λx rest H1=>match rest with
 |[]=>K x H1
 |_=>False
theorem Jh {B:Base} {cs:List SV} (o:Inv B E H) {vs:List Value} (N:Yu E cs vs) {gs:List Nat} (p:Loose B E H gs) {K:e.ty.den->List Entry->Prop} (h:closeAll e cs H K) :
  ∃E' H' x f,Frz E H E' H'/\Inv B E' H'/\Zi4 E'.S E'.w e x vs f/\K x H'/\Loose B E' H' (f++gs)/\ZlE E H H' f/\∀(i:Nat) (c:List SV),H[i]?=some (.box c)->H'[i]?=some (.box c):=by
 obtain⟨E',H',x,rest,v1,v,f,d,a,g,b,j,h,k,l,n⟩:=ZdX e cs o N p h;split at h
 ·have m:v=[]:=by cases v with
   |nil=>rfl
   |cons=>simp[Yu]at j
  subst m;rw[Un]at g;subst g;exact⟨E',H',x,f,d,a,b,h,k,l,n⟩
 ·exact h.elim
section
variable {P:Program}
variable {E:Env} {I:Nat} {t:TypeId} {e:Dp} {i:Int}
theorem ZEK {d:List e.ty.den} {cells:List SV} {F:List Nat} (h:Zwz E I (.hole t e d i cells F)) :
  ∃b o n c x,E.ids[I]?=some (.slice (some ⟨b,o,none⟩) n c)/\Yu E cells x/\x.length=e.ty.size/\∀j u,x[j]?=some u->E.w.cell? ((⟨b,o+i.toNat*e.ty.size,none⟩:Addr).add j)=some u:=by
 obtain⟨v,xs,X,x,K,D,G,k,f,y,z,ex,l,q,A,B,H,C,s⟩:=h;rcases f.2 with⟨rfl,J⟩|⟨g,p,cur,o,rfl,_⟩
 ·omega
 ·refine⟨g,o,_,p,x,k,H,q,λj u a=>?_⟩
  have m:=f.ZiY rfl;have r:xs[i.toNat*e.ty.size+j]?=some u:=by
   rw[ex,Uj,UE (by omega),l,show i.toNat*e.ty.size+j-i.toNat*e.ty.size=j by omega,Ut (Ua.1 a).1];exact a
  have:=m _ u r;rw[add_eq]at this ⊢;rw[Nat.add_assoc];exact this
def reopen (g:TypeId) (e:Dp) (I:Nat) (i:Int) (H:List Entry) (K:List SV->List Entry->Prop):Prop :=
 closeAll (.ol g e) [.own I] H λd H0=>Zlu d i λx=>Jd e x H0 λcells H1=>∀f:List Nat,ZjD H1 I (.hole g e d i cells f) λH2=>K cells H2
def Zxe (I:Nat) (i:Int) (H:List Entry) (K:List SV->List Entry->Prop):Prop :=
 ZiG H I λM=>match M with
 | .darr g e _ _=>reopen g e I i H K
 | .hole g e _ j cells _=>(i=j/\K cells H)\/reopen g e I i H K
 |_=>False
def ZDE (B:Base) (E:Env) (H:List Entry) (I:Nat) (i:Int) (K:List SV->List Entry->Prop):Prop :=
 ∃E' H' g e d cells f,E'.w=E.w/\Inv B E' H'/\E.le E'/\H'[I]?=some (.hole g e d i cells f)/\K cells H'
variable {B:Base} {H:List Entry} {v:Value} {K:List SV->List Entry->Prop}
theorem Zux (W:Inv B E H) (C:den E (.own I) v) (h:reopen t e I i H K):ZDE B E H I i K:=by
 unfold reopen at h;obtain⟨E1,H1,d,f,r,A,u,h,X,hT,hb⟩:=Jh W (show Yu E [.own I] [v]from⟨C,trivial⟩) (gs:=[]) ⟨KW,λg n=>by simp at n,λg n=>by simp at n⟩ h;simp only[den]at C;obtain⟨v',xs,T,D,Z,u,R⟩:=u;simp at D;subst D;obtain⟨y,z,h⟩:=h;have s:i.toNat<d.length:=by omega
 have J:d[i.toNat]?=some d[i.toNat]:=Ub s;have h:=h _ J;obtain⟨x1,vx,x2,k,x,F,L,P,Q,U,G,V⟩:=Zqr (λd vs f=>ZdL e d vs f) _ _ _ u _ _ J;have hp:(f++[]).Perm (x++((Y4 v).toList++k++F)):=by
  rw[Un,R,P];have:((Y4 v).toList++(k++x++F)).Perm ((Y4 v).toList++k++x++F):=by simp[Uj]
  refine this.trans ?_;rw[<-Uj];exact(U0).append_right F
 have M:=X.perm hp;obtain⟨E2,H2,cells,j,Y,m,b,q,h,N,l,hl⟩:=Zas e _ A G M h;have h:=h ((Y4 v).toList++k++F);rw[Qa]at h;have o:E1.ids[I]?=some v:=by rw[r.ids];exact C.1
 have a:E2.ids[I]?=some v:=b.ids _ _ o;have c:I<H2.length:=by
  have:=(Ua.1 a).1;rw[<-m.len];exact this
 have O:∀g:Nat,E2.w.heap[g]?=E1.w.heap[g]?:=λg=>by rw[j]
 obtain⟨p,_⟩:=Loose.put (gs:=[]) (by rw[Un];exact N) m c a (.hole t e d i cells ((Y4 v).toList++k++F)) (λ_ g n=>n)
  ⟨v,xs,x1,vx,x2,k,F,a,by rw[j];exact Z,y,z,L,Q,ZdL e _ _ _ G,
   QE _ _ _ (λd vs f _=>Y5 b.S b.w e d vs f (λg _=>O g)) U,
   QE _ _ _ (λd vs f _=>Y5 b.S b.w e d vs f (λg _=>O g)) V,q,rfl,N.nodup⟩
 exact⟨E2,_,t,e,d,cells,_,j.trans r.w,p,r.le.trans b,UG c,h⟩
theorem Zuo (m:Inv B E H) (a:den E (.own I) v) (h:Zxe I i H K):ZDE B E H I i K:=by
 unfold Zxe at h;obtain⟨M,b,h⟩:=XB H h;split at h
 ·exact Zux m a h
 ·rename_i g e d j cells f
  rcases h with⟨rfl,h⟩|h
  ·exact⟨E,H,g,e,d,cells,f,rfl,m,Env.le.refl E,b,h⟩
  ·exact Zux m a h
 ·exact h.elim
def ZAd:Entry->Bool
 | .darr _ _ _ _=>true
 | .hole _ _ _ _ _ _=>true
 |_=>false
def ZJZ:Entry->Nat
 | .darr _ e _ _=>e.ty.size
 | .hole _ e _ _ _ _=>e.ty.size
 |_=>0
theorem ZAE {z:Nat} {o:Nat} (h:den E (.oep I z i o) v):∃u,den E (.own I) u:=by
 simp only[den]at h ⊢;obtain⟨b,B,n,c,d,_⟩:=h;exact⟨_,d,_,_,_,rfl⟩
def ZCG (t:TI) (s:SV) (H:List Entry) (K:SV->List Entry->Prop):Prop :=
 match s with
 | .oep I z i o=>ZiG H I λM=>if ZAd M=true then(if ZJZ M=z then Zxe I i H λcells H'=>if cells.length=z then ZkI cells o λcs=>JW t cs λr=>K r H' else False else False)else Zx1 t s H λr=>K r H
 |_=>Zx1 t s H λr=>K r H
variable {T:TypeId} {s:SV}
theorem ZwU (m:Inv B E H) {y:TI} (h:ZeP P T y) (q:den E s v) {K:SV->List Entry->Prop} (k:ZCG y s H K) :
  ∃u r E' H',E'.w=E.w/\ZBR P E.w (Instr.loadAt T v) u/\Inv B E' H'/\E.le E'/\den E' r u/\K r H':=by
 have O:Zx1 y s H (λr=>K r H)->∃u r E' H',E'.w=E.w/\ZBR P E.w (Instr.loadAt T v) u/\Inv B E' H'/\E.le E'/\den E' r u/\K r H':=by
  intro k;obtain⟨u,r,g,f,l⟩:=ZwV m h q k;exact⟨u,r,E,H,rfl,g,m,Env.le.refl E,f,l⟩
 unfold ZCG at k;split at k
 ·rename_i N z i o
  obtain⟨W,he,k⟩:=XB H k;split at k
  ·split at k
   ·obtain⟨w0,x⟩:=ZAE q
    obtain⟨E1,H1,Y,e,d,cells,Z,F,A,G,J,k⟩:=Zuo m x k;split at k
    ·rename_i L
     rw[ZdY]at k;obtain⟨b,S,n,c,V,g,f,l,I⟩:=ZEK (A.ent N _ J);simp only[den]at q;obtain⟨X,a,n',U,D,rfl⟩:=q;have:=(G.ids _ _ D).symm.trans g;simp at this;obtain⟨⟨rfl,rfl⟩,rfl,rfl⟩:=this;have t:V.length=z:=by rw[<-Xo _ _ f];exact L
     have p:e.ty.size=z:=by rw[<-l,t]
     obtain ⟨u,r,C,Q,R⟩:=ZjV h E1.w ⟨X,a+(i.toNat*z+o),none⟩ k (V.drop o) (Zbg _ _ f o) (λj u M=>by
      have:=I (o+j) u (by simpa using M);rw[add_eq] at this ⊢;rw[p] at this;rw[show a+(i.toNat*z+o)+j=a+i.toNat*z+(o+j) by omega];exact this)
     refine⟨u,r,E1,H1,F,λw' hst=>?_,A,G,Q,R⟩;rw[F]at C;simp only[Instr.loadAt,Instr.sureAddr,pure_bind];exact C w' hst
    ·exact k.elim
   ·exact k.elim
  ·exact O k
 ·exact O k
def ZqI (t:TI) (I z:Nat) (i:Int) (o:Nat) (sx:SV) (H:List Entry) (K:List Entry->Prop):Prop :=
 if(sx.whole&&Zru sx.cells&&Zrt sx.cells t.size)=true then Zxe I i H λcells H'=>if cells.length=z/\o+t.size<=z then Zmm cells o sx.cells λw=>ZiG H' I λM=>match M with
  | .hole g e d j _ f=>ZjD H' I (.hole g e d j w f) K
  |_=>False
 else False else False
def Zxw (t:TI) (s sx:SV) (H:List Entry) (K:List Entry->Prop):Prop :=
 match s with
 | .oep I z i o=>ZiG H I λM=>if ZAd M=true then ZqI t I z i o sx H K else Zxx t s sx H K
 |_=>Zxx t s sx H K
variable {sx:SV} {K:List Entry->Prop}
theorem ZuO (hI:Inv B E H) {U:TI} (h:ZeP P T U) {id z:Nat} {O:Nat} {va x:Value} (ha:den E (.oep id z i O) va) (hx:den E sx x) (k:ZqI U id z i O sx H K):∃E' H',(Instr.storeAt T va x).run P E.w=.ok () E'.w/\Inv B E' H'/\E.le E'/\K H'/\E.w.grownBy E'.w (Y4 va):=by
 unfold ZqI at k;split at k
 ·rename_i hc
  simp only[Ur,Zrt,Kl]at hc;obtain⟨⟨hw,h1⟩,F⟩:=hc;have N:=Zbe hx hw;have hl:=Xo _ _ N;have a5:=Zix _ _ N h1;have d4:x.cells.size=U.size:=by rw[<-UK,<-hl,F]
  have a:x.cells.toList.length=U.size:=by rw[<-hl,F]
  obtain⟨w0,d5⟩:=ZAE ha;obtain⟨E1,H1,et,e,d,cells,fp,a7,A,m,J,k⟩:=Zuo hI d5 k;split at k
  ·rename_i M
   obtain⟨M,d6⟩:=M;rw[Zjz]at k;obtain⟨en,b4,k⟩:=XB H1 k;have:=J.symm.trans b4;simp at this;subst this;simp only[Qa]at k;simp only[den]at ha;obtain⟨b,y,n,c,g1,rfl⟩:=ha;have G:=m.ids _ _ g1;obtain⟨v,xs,x1,V,x2,f1,f2,k1,ho,b6,b7,ex,W,b0,d2,d3,Z,ef,u⟩:=A.ent id _ J;have:=G.symm.trans k1;simp at this;subst this;have R:V.length=z:=by rw[<-Xo _ _ Z];exact M
   have s:e.ty.size=z:=by rw[<-b0,R]
   rcases ho.2 with⟨hv,_⟩|⟨g,a9,cur,o,hv,b5,hh,D,d0,X,q⟩
   ·simp at hv
   ·simp only[Value.slice.injEq,Option.some.injEq,Addr.mk.injEq,and_true]at hv
    obtain⟨⟨b1,b2⟩,d1,b3⟩:=hv;subst b1;subst b2;rw[s]at ho X q W;have b9:i.toNat<d.length:=by omega
    have l:cur.toList.length=cur.size:=UK;have Y:y+d.length*z<=cur.toList.length:=by rw[l];exact Ko (Nat.add_le_add_left (U8 _ D) _) X
    have b8:i.toNat*z+z<=d.length*z:=by rw[<-Kc];exact U8 _ b9
    have a6:=Zj4 h E1.w b (y+(i.toNat*z+O)) x cur et hh d4 (by rw[<-l];omega) a5;have r:=ZgS E1.w b (cur.toList.take (y+(i.toNat*z+O))++x.cells.toList++cur.toList.drop (y+(i.toNat*z+O)+U.size)).toArray;have C:b∈fp:=by rw[ef];simp[Y4]
    have j:=ZfG r A.Slt (λg Q=>by simp at Q;subst Q;exact(A.free id _ _ _ J rfl G C).1);have p:∀f':List Nat,(∀g∈f',g∈f1\/g∈f2)->∀g∈f',(E1.w.setRow b (cur.toList.take (y+(i.toNat*z+O))++x.cells.toList++cur.toList.drop (y+(i.toNat*z+O)+U.size)).toArray).heap[g]?=E1.w.heap[g]?:=by
     intro f' L g a4;have a0:g∈fp:=by rw[ef];simp only[Uu];rcases L g a4 with h'|h'<;>simp[h']
     refine r.block g (A.free id _ _ _ J rfl G a0).2.2 (λQ=>?_);simp at Q;subst Q;rw[ef]at u;simp only[Y4,Option.toList,U3,Uw,List.nodup_cons,Uu]at u;exact u.1 (L g a4)
    have hsp:=ZjY (t:=z) cur.toList x.cells.toList y (d.length*z) i.toNat O Y b8 (by rw[a];omega);rw[a,q]at hsp;have a1:xs.take (i.toNat*z)=x1:=by rw[ex,<-W,Uj,KF]
    have a2:(xs.drop (i.toNat*z)).take z=V:=by rw[ex,<-W,Uj,KV,<-R,KF]
    have a3:xs.drop (i.toNat*z+z)=x2:=by rw[ex,<-W,<-R,show x1.length+V.length=(x1++V).length by simp,KV]
    rw[a1,a2,a3]at hsp;have I:=Zh7 (ZX j _ _ Z) (ZX j _ _ (ZX m _ _ N)) O;rw[a]at I;refine⟨⟨E1.S,E1.w.setRow b _,E1.ids⟩,_,?_,A.ZxC J rfl G (row:=some b) (λg Q=>by simp at Q;subst Q;exact C) r (.hole et e d i (cells.take O++(sx.cells++cells.drop (O+sx.cells.length))) fp) (λ_ g r=>r) ?_,m.trans j,k,by rw[<-a7];exact r⟩
    ·rw[<-a7];exact a6
    ·refine⟨_,x1++(V.take O++x.cells.toList++V.drop (O+U.size))++x2,x1,_,x2,f1,f2,G,⟨?_,.inr ⟨b,a9,_,y,?_,b5,setRow_heap E1.w b cur _ et (0,0) hh,by simpa using D,d0,?_,?_⟩⟩,b6,b7,rfl,by rw[W,s],?_,?_,?_,I,ef,u⟩
     ·have a8:=ho.1
      rw[ex]at a8;rw[s];simp only[Ug,Uk,UY,a]at a8 ⊢;omega
     ·rw[d1,b3]
     ·rw[Kk,s]
      simp only[Ug,Uk,UY,a];rw[<-l]at X;omega
     ·rw[List.toList_toArray,s];exact hsp
     ·rw[s]
      simp only[Ug,Uk,UY,a];omega
     ·exact QE _ _ _ (λd vs f hs=>Y5 j.S j.w e d vs f (p f (λg r=>.inl (hs g r)))) d2
     ·exact QE _ _ _ (λd vs f hs=>Y5 j.S j.w e d vs f (p f (λg r=>.inr (hs g r)))) d3
  ·exact k.elim
 ·exact k.elim
theorem ZuN (m:Inv B E H) {t:TI} (h:ZeP P T t) {x:Value} (n:den E s v) (l:den E sx x) (k:Zxw t s sx H K):∃E' H',(Instr.storeAt T v x).run P E.w=.ok () E'.w/\Inv B E' H'/\E.le E'/\K H'/\E.w.grownBy E'.w (Y4 v):=by
 unfold Zxw at k;split at k
 ·obtain⟨M,e,k⟩:=XB H k
  split at k
  ·exact ZuO m h n l k
  ·exact ZuP m h n l k
 ·exact ZuP m h n l k
end
section
variable {P:Program}
variable {B:Base} {E:Env} {H:List Entry} {gs:List Nat}
theorem Loose.write (o:Loose B E H gs) (m:Inv B E H) {w':World} {row:Option Nat} (n:∀g,row=some g->g∈gs) (l:E.w.grownBy w' row) :
  Inv B ⟨E.S,w',E.ids⟩ H/\E.le ⟨E.S,w',E.ids⟩/\Loose B ⟨E.S,w',E.ids⟩ H gs/\(E.w.heap.size<w'.heap.size->Loose B ⟨E.S,w',E.ids⟩ H (E.w.heap.size::gs)):=by
 have r:=ZfG l m.Slt (λg e=>(o.free g (n g e)).1);have s:Inv B ⟨E.S,w',E.ids⟩ H :=
  {keeps:=m.keeps.grown l (λg e=>(o.free g (n g e)).2.1)
   Slt:=λb d=>UP (m.Slt b d) l.size
   Sold:=m.Sold,len:=m.len,pin:=m.pin
   ent:=λi e p=>ZfE r i e (λq v g k d=>l.block g (m.free i e v g p q k d).2.2 (λQ=>o.apart g (n g Q.symm) i e v p q k d)) (m.ent i e p)
   free:=λi e v g p q k d=>by
    obtain⟨a,b,c⟩:=m.free i e v g p q k d;exact⟨a,b,UP c l.size⟩
   sep:=m.sep}
 have f:Loose B ⟨E.S,w',E.ids⟩ H gs:=⟨o.nodup,λg h=>by
  obtain ⟨a,b,c⟩:=o.free g h;exact ⟨a,b,UP c l.size⟩,o.apart⟩
 refine⟨s,r,f,λt=>⟨List.nodup_cons.2 ⟨λR=>KT _ (o.free _ R).2.2,o.nodup⟩,λg h=>?_,λg h j e v u q k d=>?_⟩⟩
 ·rcases UD.1 h with rfl|h
  ·exact⟨λx=>KT _ (m.Slt _ x),.inl m.keeps.size,t⟩
  ·exact f.free g h
 ·rcases UD.1 h with rfl|h
  ·exact KT _ (m.free j e v _ u q k d).2.2
  ·exact f.apart g h j e v u q k d
def Zmb (g:TypeId) (e:Dp) (d:List e.ty.den) (H:List Entry) (K:SV->List Entry->Prop):Prop :=
 ZvA H 0 λn=>∀f:List Nat,ZtB H [.darr g e d f] λH'=>K (.own n) H'
variable {e:Dp} {v:Value} {K:SV->List Entry->Prop}
theorem ZnW (m:Inv B E H) {t:TypeId} {d:List e.ty.den} {f:List Nat} (r:Zi4 E.S E.w (.ol t e) d [v] f) (o:Loose B E H (f++gs)) (h:Zmb t e d H K) :
  ∃E' H' s,E'.w=E.w/\Inv B E' H'/\E.le E'/\den E' s v/\K s H':=by
 unfold Zmb at h;rw[Zek,Us]at h;have h:=h f;rw[Zde]at h;obtain⟨v',xs,F,j,x,r,b⟩:=r;simp at j;subst j;have a:(E.ids++[v])[H.length]?=some v:=by rw[<-m.len];simp
 obtain⟨q,i⟩:=o.push m v (.darr t e d f) (λ_ g c=>c) ⟨v,xs,F,a,x,r,b,(U2.1 o.nodup).1⟩;exact⟨⟨E.S,E.w,E.ids++[v]⟩,_,_,rfl,q,ZlM E v,Zqk a x,h⟩
def ZDR:List Entry->Nat->Option (TypeId×Dp)
 |[],_=>none
 |e::_,0=>match e with
  | .darr g e _ _=>some (g,e)
  | .hole g e _ _ _ _=>some (g,e)
  |_=>none
 |_::r,n+1=>ZDR r n
def Zzj (s:SV) (H:List Entry):Option (TypeId×Dp) :=
 match s with
 | .own I=>ZDR H I
 |_=>none
def ZHp (g:TypeId) (e:Dp) (t:TI) (s x:SV) (H:List Entry) (K:SV->List Entry->Prop):Prop :=
 if g=t.elem/\e.ty.size=t.esize/\0<t.esize/\0<t.ebytes then ZqV t.ezero λz=>if z.length=t.esize then
  closeAll (.ol g e) [s] H λd H1=>closeAll (.ol g e) [x] H1 λD H2=>(d.length+D.length)*t.ebytes<=140737488355328/\Zmb g e (d++D) H2 K
 else False else False
def Zu7 (t:TI) (s x:SV) (H:List Entry) (K:SV->List Entry->Prop):Prop :=
 match t.kind with
 | .sl=>match Zzj s H with
  |some (g,e)=>ZHp g e t s x H K
  |none=>match Zzj x H with
   |some (g,e)=>ZHp g e t s x H K
   |none=>Zu8 t s x H K
 |_=>False
theorem Zqq {S:Nat->Prop} {w:World}:∀(e:Dp) (d:e.ty.den) (vs:List Value) (f:List Nat),Zi4 S w e d vs f->∀u∈vs,u.oneCell'=true
 | .flat t,d,vs,f,h,u,H=>Zs6 t d vs h.2 u H
 | .ol l e,d,vs,f,⟨v,xs,s,j,x,_⟩,u,H=>by
  subst j;simp at H;subst H;rcases x.2 with⟨rfl,_⟩|⟨g,c,cur,o,rfl,_⟩<;>rfl
 | .mp _ _,d,vs,f,⟨b,E,C,j,_⟩,u,H=>by
  subst j;simp at H;subst H;rfl
 | .pair a b,d,vs,f,⟨v1,V,F,m,j,_,i,k⟩,u,H=>by
  subst j;rcases Uu.1 H with H|H
  ·exact Zqq a _ _ _ i u H
  ·exact Zqq b _ _ _ k u H
theorem ZrR {S:Nat->Prop} {w:World} {e:Dp}:∀(l:List e.ty.den) (xs:List Value) (f:List Nat),Zcp (Zi4 S w e) l xs f->∀u∈xs,u.oneCell'=true
 |[],xs,f,h,u,a=>by rw[h.1]at a;simp at a
 |d::l,xs,f,⟨v1,v,c,F,j,_,H,b⟩,u,a=>by
  subst j;rcases Uu.1 a with a|a
  ·exact Zqq e _ _ _ H u a
  ·exact ZrR l v F b u a
theorem ZyW (hI:Inv B E H) {T ty:TypeId} {L:TI} (h:ZeP P T L) (d7:L.kind=.sl) {V:TypeId} {s x:SV} {vs vx:Value} (hs:den E s vs) (hx:den E x vx) (k:ZHp V e L s x H K):∃u E' H' r,(Builtin.append_ #[T,T] ty #[vs,vx]).run P E.w=.ok u E'.w/\Inv B E' H'/\E.le E'/\den E' r u/\K r H'/\E.w.grownBy E'.w vs.ownBlock:=by
 unfold ZHp at k;split at k
 ·rename_i d4
  obtain⟨t,J,f3,Y⟩:=d4;obtain⟨z,hz,k⟩:=ZhU E _ _ k;split at k
  ·rename_i e6
   obtain⟨hu,_,ie,a2,b7,b4,A⟩:=h.slice d7;have b8:L.ezero.cells.size=L.esize:=by rw[<-UK,<-Xo _ _ hz,e6]
   obtain⟨E1,H1,d,f1,G,d0,e1,k,d2,_,_⟩:=Jh hI (show Yu E [s] [vs]from⟨hs,trivial⟩) (gs:=[]) ⟨KW,λg a=>by simp at a,λg a=>by simp at a⟩ k;obtain⟨E2,H2,U,f2,M,a9,e2,k,b0,_,_⟩:=Jh d0 (show Yu E1 [x] [vx]from⟨ZiC G.le _ _ hx,trivial⟩) d2 k;obtain⟨i,k⟩:=k;rw[Un]at b0;have e5:E2.w=E.w:=by rw[M.w,G.w]
   have b6:=Y5 M.le.S M.le.w (.ol V e) d [vs] f1 (λg _=>by rw[M.w]) e1;obtain⟨v1,X,F,a6,n,Q,j⟩:=b6;simp at a6;subst a6;obtain⟨v2,a5,b,a7,I,R,C⟩:=e2;simp at a7;subst a7;rw[<-e5];have D:Loose B E2 H2 (f1++f2):=b0.perm U0;rcases I.2 with⟨a4,e0⟩|⟨g2,N,e7,o2,a4,e9,f4,d5,f0,e8,b9⟩
   ·have d6:U=[]:=UI e0
    subst d6;rw[Un]at k;subst a4;have hr:=ZgE (P:=P) (w:=E2.w) 0 T ty V ie e.ty.size (by rw[t];exact hu) (by rw[t];exact a2) vs d.length X n;obtain⟨E3,H3,r,y,W,c,a0,k⟩:=ZnW a9 (⟨vs,X,F,rfl,n,Q,j⟩:Zi4 E2.S E2.w (.ol V e) d [vs] f1) D k;refine⟨vs,E3,H3,r,?_,W,(G.le.trans M.le).trans c,a0,k,by rw[y];exact⟨rfl,rfl,rfl,UO _,λ_ _ _=>rfl⟩⟩;rw[y];exact hr
   ·subst a4
    have m:=I.ZiY rfl;have a8:d.length+U.length<=maxLen:=by
     have:=Nat.le_mul_of_pos_right (d.length+U.length) Y;unfold maxLen;omega
    have o:=ZrR _ _ _ R;obtain⟨v',w',hr,p,a1,_⟩:=Zna (P:=P) E2.w 0 T ty V ie L.ezero e.ty.size L.ebytes (by rw[t];exact hu) (by rw[t];exact a2) A (by rw[b7,J]) b4 (by rw[b8,J]) (by omega) vs d.length X n
     ⟨g2,o2,none⟩ U.length N a5 I.1 m o a8 i (Nat.zero_le _)
    have b3:=ZlV (P:=P) E2.w 0 T ty V ie L.ezero e.ty.size L.ebytes (by rw[t];exact hu) (by rw[t];exact a2) A (by rw[b7,J]) b4 (by rw[b8,J]) (by omega) vs d.length X n
     ⟨g2,o2,none⟩ U.length N a5 I.1 m o a8 i hr
    have Z:=ZdJ n;obtain ⟨W,c,b1,b2⟩:=D.write a9 (row:=vs.ownBlock) (λg a=>by
     rw[<-Z] at a;rw[j];simp[a]) a1
    have a3:=D.nodup;have keep:∀g,g∈F++b->w'.heap[g]?=E2.w.heap[g]?:=by
     intro g a;have d8:g∈f1++f2:=by
      rw[j,C];simp only[Uu]at a ⊢;rcases a with a|a
      ·exact .inl (.inr a)
      ·exact .inr (.inr a)
     refine a1.block g (D.free g d8).2.2 (λeq=>?_);rw[<-Z]at eq;rw[j,C,<-eq]at a3;simp only[Option.toList,U3,Uw,List.nodup_cons,Uu]at a3;refine a3.1 ?_;rcases Uu.1 a with a|a
     ·exact .inl a
     ·exact .inr (.inr a)
    have e4:Zcp (Zi4 E2.S w' e) (d++U) (X++a5) (F++b) :=
     ZiN _ _ _ _ _ _ (QE _ _ _ (λd vs f hs=>Y5 (λ_ h=>h) c.w e d vs f (λg a=>keep g (by simp[hs g a]))) Q)
      (QE _ _ _ (λd vs f hs=>Y5 (λ_ h=>h) c.w e d vs f (λg a=>keep g (by simp[hs g a]))) R)
    have e3:Zi4 E2.S w' (.ol V e) (d++U) [v'] ((Y4 v').toList++(F++b)):=⟨v',_,_,rfl,by rw[Ug];exact p,e4,rfl⟩;have d9:∀g,Y4 v'=some g->g<w'.heap.size:=by
     intro g a;rw[ZdJ p]at a;exact(p.lt g a).2
    have sub:∀{l:List Nat},List.Sublist ((Y4 v').toList++(F++b)) l->Loose B ⟨E2.S,w',E2.ids⟩ H2 l->Loose B ⟨E2.S,w',E2.ids⟩ H2 ((Y4 v').toList++(F++b)++[]):=by
     intro l v hl;rw[Un];exact⟨hl.nodup.sublist v,λg a=>hl.free g (v.subset a),λg a=>hl.apart g (v.subset a)⟩
    have q:List.Sublist (F++b) (f1++f2):=by
     rw[j,C];exact List.Sublist.append (List.sublist_append_right _ _) (List.sublist_append_right _ _)
    have d3:Loose B ⟨E2.S,w',E2.ids⟩ H2 ((Y4 v').toList++(F++b)++[]):=by
     rcases b3 with O|O|O
     ·subst O
      exact sub (by simpa[Y4]using q) b1
     ·rw[O,<-Z]
      have:=sub (l:=f1++f2) (by
       rw[O,<-Z,j,C,Uj];exact List.Sublist.append (List.Sublist.refl _) (List.Sublist.append (List.Sublist.refl _) (List.sublist_append_right _ _))) b1
      rwa [O,<-Z]at this
     ·exact sub (by rw[O];exact List.Sublist.cons_cons _ q) (b2 (d9 _ O))
    obtain⟨E3,H3,r,y,d1,b5,a0,k⟩:=ZnW W e3 d3 k;refine⟨v',E3,H3,r,?_,d1,((G.le.trans M.le).trans c).trans b5,a0,k,by rw[y];exact a1⟩;rw[y];exact hr
  ·exact k.elim
 ·exact k.elim
theorem ZxE (m:Inv B E H) {T ty:TypeId} {t:TI} (h:ZeP P T t) {s x:SV} {vs:Value} (q:den E s vs) (l:den E x v) (k:Zu7 t s x H K):∃u E' H' r,(Builtin.append_ #[T,T] ty #[vs,v]).run P E.w=.ok u E'.w/\Inv B E' H'/\E.le E'/\den E' r u/\K r H'/\E.w.grownBy E'.w vs.ownBlock:=by
 unfold Zu7 at k;split at k
 ·rename_i e
  split at k
  ·exact ZyW m h e q l k
  ·split at k
   ·exact ZyW m h e q l k
   ·exact ZxF m h q l k
 ·exact k.elim
end
section
variable {P:Program}
def ZBK:(e:Dp)->List SV->(e.ty.den->List SV->Prop)->Prop
 | .flat t,cs,K=>QC t cs K
 | .ol _ _,cs,K=>match cs with
  | .nsl::r=>K [] r
  |_=>False
 | .mp _ _,_,_=>False
 | .pair a b,cs,K=>ZBK a cs λx r=>ZBK b r λy R=>K (x,y) R
theorem Ztz {E:Env}:∀(e:Dp) (cs:List SV) {K:e.ty.den->List SV->Prop} (vs:List Value),Yu E cs vs->ZBK e cs K->
  ∃d r v1 V,vs=v1++V/\Zi4 E.S E.w e d v1 []/\Yu E r V/\K d r
 | .flat t,cs,K,vs,N,H=>by
  obtain⟨d,r,v1,V,a,b,c,k⟩:=Qj t cs K vs N H;exact⟨d,r,v1,V,a,⟨rfl,b⟩,c,k⟩
 | .ol m e,cs,K,vs,N,H=>by
  simp only[ZBK]at H;split at H
  ·rename_i r
   match vs,N with
   |[],N=>simp[Yu]at N
   |v::vs,N =>
    simp only[Yu,den]at N;obtain⟨rfl,N⟩:=N;exact⟨[],r,[_],vs,rfl,⟨_,[],[],rfl,World.Zll _ _ _ _,⟨rfl,rfl⟩,rfl⟩,N,H⟩
  ·exact H.elim
 | .mp _ _,cs,K,vs,N,H=>H.elim
 | .pair a b,cs,K,vs,N,H=>by
  obtain⟨x,r,v1,V,f,h,g,H⟩:=Ztz a cs vs N H;obtain⟨y,R,v3,O,i,j,l,H⟩:=Ztz b r V g H;exact⟨(x,y),R,v1++v3,O,by rw[f,i,Uj],⟨v1,v3,[],[],rfl,rfl,h,j⟩,l,H⟩
theorem ZkY {α:Type} {R:α->List Value->List Nat->Prop} {x:α} {vs:List Value} (h:R x vs []):∀n,Zcp R (List.replicate n x) (List.replicate n vs).flatten []
 |0=>by simp[Zcp]
 |n+1=>by
  simp only[KB,List.flatten_cons];exact⟨vs,_,[],[],rfl,rfl,h,ZkY h n⟩
theorem Zn4 {α:Type} {R:α->List Value->List Nat->Prop} {n:Nat} (H:∀d vs f,R d vs f->vs.length=n):∀l xs p,Zcp R l xs p->∀i,∃F a,p=F++a/\Zcp R (l.take i) (xs.take (i*n)) F
 |[],xs,p,h,i=>⟨[],[],by rw[h.2];rfl,by rw[h.1];simp[Zcp]⟩
 |d::l,xs,p,h,0=>⟨[],p,rfl,by simp[Zcp]⟩
 |d::l,_,_,⟨v1,v,F,a,e,E,r,s⟩,i+1=>by
  obtain⟨g,G,b,c⟩:=Zn4 H l v a s i;have q:=H _ _ _ r;subst e;refine⟨F++g,G,by rw[E,b,Uj],?_⟩;rw[List.take_succ_cons,show(i+1)*n=v1.length+i*n by rw[q,Kc];omega,List.take_append];exact⟨v1,_,F,g,by simp[KC],rfl,r,c⟩
theorem ZrQ {α:Type} {R:α->List Value->List Nat->Prop} {n:Nat} (H:∀d vs f,R d vs f->vs.length=n):∀l xs p,Zcp R l xs p->∀i,∃a F,p=a++F/\Zcp R (l.drop i) (xs.drop (i*n)) F
 |[],xs,p,h,i=>⟨[],[],by rw[h.2];rfl,by rw[h.1];simp[Zcp]⟩
 |d::l,xs,p,h,0=>⟨[],p,rfl,by simpa using h⟩
 |d::l,_,_,⟨v1,v,a,F,e,E,r,s⟩,i+1=>by
  obtain⟨g,G,b,c⟩:=ZrQ H l v F s i;have q:=H _ _ _ r;subst e;refine⟨a++g,G,by rw[E,b,Uj],?_⟩;rw[List.drop_succ_cons,show(i+1)*n=v1.length+i*n by rw[q,Kc];omega,<-List.drop_drop,KV];exact c
variable {B:Base} {E:Env} {H:List Entry} {e:Dp} {K:SV->List Entry->Prop}
theorem Zpp (r:Inv B E H) {t:TypeId} {d:List e.ty.den} (k:Zmb t e d H K) (cs:Array Value) (c:Nat) {f gs:List Nat} (o:Loose B E H (f++gs))
  (n:d.length<=c) (R:c<=maxLen) (q:cs.size=c*e.ty.size) (u:Zcp (Zi4 E.S E.w e) d (cs.toList.take (d.length*e.ty.size)) f) :
  ∃E' H' s,E'.w=E.w.alloc (.cells cs t)/\Inv B E' H'/\E.le E'/\den E' s (.slice (some ⟨E.w.heap.size,0,none⟩) d.length c)/\K s H':=by
 have p:E.w.grownBy (E.w.alloc (.cells cs t)) none:=World.grownBy_alloc E.w _ none;obtain⟨A,G,_,M⟩:=o.write r (row:=none) (λg h=>by cases h) p;have M:=M (by simp);have keep:∀g∈f,(E.w.alloc (.cells cs t)).heap[g]?=E.w.heap[g]?:=λg m=>p.block g (o.free g (by simp[m])).2.2 (by simp);have j:Zi4 E.S (E.w.alloc (.cells cs t)) (.ol t e) d [.slice (some ⟨E.w.heap.size,0,none⟩) d.length c] (E.w.heap.size::f):=by
  refine⟨_,cs.toList.take (d.length*e.ty.size),f,rfl,⟨?_,.inr ⟨_,c,cs,0,rfl,Nat.zero_le _,Go.heap_alloc_new _ _,n,R,by rw[Us];exact Nat.le_of_eq q.symm,by rw[KE]⟩⟩,?_,rfl⟩
  ·have L:cs.toList.length=cs.size:=UK
   rw[Uk,L,q];have:=U8 e.ty.size n;omega
  ·exact QE _ _ _ (λd vs F q=>Y5 G.S G.w e d vs F (λg m=>keep g (q g m))) u
 obtain⟨E2,H2,s,l,a,b,i,k⟩:=ZnW A j (gs:=gs) M k;exact⟨E2,H2,s,l,a,G.trans b,i,k⟩
def ZEV (t:TI) (sl s:SV) (H:List Entry) (K:SV->List Entry->Prop):Prop :=
 match t.edp with
 |none=>ZEW t sl s H K
 |some e=>match t.kind,sl,s with
  | .sl,.int _ l,.int _ c=>ZqV t.ezero λz=>if z.length=t.esize/\e.ty.size=t.esize then
    0<=l/\l<=c/\c<=4611686018427387904/\(t.ebytes:Int)*c<=281474976710656/\ZBK e z λx _=>Zmb t.elem e (List.replicate l.toNat x) H K
   else False
  |_,_,_=>False
theorem Loose.none (B:Base) (E:Env) (H:List Entry):Loose B E H []:=⟨KW,λg a=>by simp at a,λg a=>by simp at a⟩
variable {T:TypeId} {t:TI}
theorem ZCQ (M:Inv B E H) (h:ZeP P T t) {sl S:SV} {U V:Value} (A:den E sl U) (q:den E S V) (k:ZEV t sl S H K) :
  ∃u E' H' s,(Instr.makeSlice T U V).run P E.w=.ok u E'.w/\Inv B E' H'/\E.le E'/\den E' s u/\K s H'/\Grow E.w E'.w:=by
 unfold ZEV at k;split at k
 ·exact ZCR M h A q k
 ·rename_i e _
  split at k
  ·rename_i kl l kc c m
   obtain⟨z,R,k⟩:=ZhU E _ _ k;split at k
   ·rename_i a
    obtain⟨F,y⟩:=a;obtain⟨W,C,N,L,k⟩:=k;obtain⟨hu,_,ie,v,hs,Z,o⟩:=h.slice m;simp only[den]at A q;subst A;subst q;have G:=Xo _ _ R;have O:t.ezero.cells.size=t.esize:=by rw[<-UK,<-G,F]
    obtain⟨x,r,v1,v2,I,Q,_,k⟩:=Ztz _ _ _ R k;have D:v1=t.ezero.cells.toList:=by
     have X:=ZdL _ _ _ _ Q;have Y:=UN List.length I;rw[Ug,UK,O,X,y]at Y;have:v2=[]:=UI (by omega);rw[I,this,Un]
    have n:(madeCells t.ezero.cells (c.toNat*t.esize)).toList=(List.replicate c.toNat t.ezero.cells.toList).flatten:=by
     rw[<-O];exact ZiK _ _
    obtain ⟨E2,H2,s,g,i,b,j,k⟩:=Zpp M k (madeCells t.ezero.cells (c.toNat*t.esize)) c.toNat (f:=[]) (gs:=[]) (Loose.none B E H) (by rw[UQ];omega) (by unfold maxLen;omega) (by rw[size_madeCells,y]) (by
     obtain⟨J,f2,hf,this⟩:=Zn4 (λd vs f=>ZdL e d vs f) _ _ _ (ZkY Q c.toNat) l.toNat;have p:J=[]:=by cases J with
      |nil=>rfl
      |cons=>simp at hf
     subst p;rw[List.take_replicate]at this;rw[UQ,n,<-D]
     rwa [show min l.toNat c.toNat=l.toNat by omega] at this)
    refine⟨_,E2,H2,s,?_,i,b,j,k,by rw[g];exact Zd0 _ _⟩;rw[g,UQ,<-hs];exact run_make E.w T t.elem ie t.ezero hu v o kl kc l c W C (by rw[Z];exact L) (by omega)
   ·exact k.elim
  ·exact k.elim
def Zje (e:Dp):Nat->List SV->List Entry->(List e.ty.den->List Entry->Prop)->Prop
 |0,cs,H,K=>match cs with
  |[]=>K [] H
  |_=>False
 |n+1,cs,H,K=>Zax e cs H λx r H1=>Zje e n r H1 λl H2=>K (x::l) H2
theorem Zmz {B:Base} {e:Dp}:∀(n:Nat) (cs:List SV) {E:Env} {H:List Entry} (_:Inv B E H) {vs:List Value} (_:Yu E cs vs) {gs:List Nat} (_:Loose B E H gs) {K:List e.ty.den->List Entry->Prop} (_:Zje e n cs H K),
  ∃E' H' l f,Frz E H E' H'/\Inv B E' H'/\l.length=n/\Zcp (Zi4 E'.S E'.w e) l vs f/\K l H'/\Loose B E' H' (f++gs)
 |0,cs,E,H,m,vs,N,gs,o,K,h=>by
  simp only[Zje]at h;split at h
  ·match vs,N with
   |[],_=>exact⟨E,H,[],[],Frz.refl E H,m,rfl,⟨rfl,rfl⟩,h,o⟩
   |_::_,N=>simp[Yu]at N
  ·exact h.elim
 |n+1,cs,E,H,m,vs,N,gs,o,K,h=>by
  simp only[Zje]at h;obtain⟨E1,H1,x,r,v1,v,F,i,A,q,j,d,h,b,_,_⟩:=ZdX e cs m N o h;obtain⟨E2,H2,l,p,M,a,T,k,h,c⟩:=Zmz n r A d b h;refine⟨E2,H2,x::l,F++p,i.trans M,a,by simp[T],⟨v1,v,F,p,q,rfl,?_,k⟩,h,?_⟩
  ·exact Y5 M.le.S M.le.w e _ _ _ (λg _=>by rw[M.w]) j
  ·refine c.perm ?_
   rw[<-Uj];exact U0.append_right gs
def ZlX (t:TI) (len:Nat) (p:List (Nat×SV)) (H:List Entry) (K:SV->List Entry->Prop):Prop :=
 match t.edp with
 |none=>ZlY t len p H K
 |some e=>match t.kind with
  | .sl=>if len=0/\p.isEmpty=true then Zmb t.elem e [] H K else ZqV t.ezero λz=>if z.length=t.esize/\e.ty.size=t.esize/\0<len*t.esize/\len*t.esize<=16777216 then
    ZGY z len λZ=>Zvk (λi k=>k (i*t.esize) t.esize) Z p λcs=>Zje e len cs H λd H'=>Zmb t.elem e d H' K
   else False
  |_=>False
theorem Zq0 (S:Inv B E H) (h:ZeP P T t) {len:Nat} {R:List (Nat×SV)} {Q:Array (Nat×Value)} (N:ZlL E R Q.toList) (a:ZlX t len R H K) :
  ∃u E' H' s,(Instr.buildSlice T len Q).run P E.w=.ok u E'.w/\Inv B E' H'/\E.le E'/\den E' s u/\K s H'/\Grow E.w E'.w:=by
 unfold ZlX at a;split at a
 ·exact Zq1 S h N a
 ·rename_i e _
  split at a
  ·rename_i G
   split at a
   ·rename_i F
    obtain⟨rfl,A⟩:=F;have A:R=[]:=by simpa using A
    subst A;have hq:Q.toList=[]:=by cases Z:Q.toList with
     |nil=>rfl
     |cons q r=>rw[Z]at N;simp[ZlL]at N
    obtain⟨hu,_,ie,n,O,_,o⟩:=h.slice G;obtain⟨E2,H2,s,g,l,b,m,a⟩:=Zpp S a #[] 0 (f:=[]) (gs:=[]) (Loose.none B E H) (by simp) (by unfold maxLen;omega) (by simp) (by simp[Zcp]);refine⟨_,E2,H2,s,?_,l,b,m,a,by rw[g];exact Zd0 _ _⟩;rw[g];simp[Instr.buildSlice,run_underlying hu,sizeOf,typeInfo,n,hq,Instr.fill,newRow];congr 2;apply Array.ext';simp
   obtain⟨z,hz,a⟩:=ZhU E _ _ a;split at a
   ·rename_i hc
    obtain⟨a0,L,J,a3⟩:=hc;obtain⟨hu,_,ie,n,O,_,o⟩:=h.slice G;rw[ZvR]at a;have a1:=Xo _ _ hz;have a2:t.ezero.cells.size=t.esize:=by rw[<-UK,<-a1,a0]
    have y:(madeCells t.ezero.cells (len*t.esize)).toList=(List.replicate len t.ezero.cells.toList).flatten:=by
     rw[<-a2];exact ZiK _ _
    obtain⟨z',C,h1,h2,h3⟩:=ZmI (E:=E) (λi k=>k (i*t.esize) t.esize) (λi=>some (i*t.esize,t.esize)) (λi K j=>⟨_,_,rfl,j⟩) R Q.toList N _ (madeCells t.ezero.cells (len*t.esize)) (by rw[y];exact Zsm hz len) a;obtain⟨E1,H1,d,f,x,U,I,W,a,V⟩:=Zmz len _ S h2 (Loose.none B E H) h3;have D:∀(Q:List (Nat×Value)) (c M:Array Value),Instr.fill (λi=>some (i*t.esize,t.esize)) c Q=some M->M.size=c.size:=by
     intro Q;induction Q with
     |nil=>intro c M j;simp[Instr.fill]at j;rw[j]
     |cons q Q ih =>
      intro c M j;obtain⟨i,v⟩:=q;simp only[Instr.fill]at j;split at j
      ·cases j
      ·have:=ih _ _ j
       rw[this,<-Array.foldl_toList,Array.toList_zipIdx];exact(Great.foldl_set (i*t.esize) v.cells.toList 0 c).1
    have X:C.size=len*t.esize:=by rw[D _ _ _ h1,size_madeCells]
    have p:1<=t.esize:=by
     rcases Nat.eq_zero_or_pos t.esize with F|F
     ·rw[F]at J;omega
     ·exact F
    have Y:len<=maxLen:=by
     have:=Nat.mul_le_mul_left len p;unfold maxLen;omega
    obtain ⟨E2,H2,s,g,l,b,m,a⟩:=Zpp U a C len V (by omega) Y (by rw[X,L]) (by
     rw[I,L,<-X,<-UK,Uq];exact W)
    refine⟨_,E2,H2,s,?_,l,x.le.trans b,m,a,by rw[g,x.w];exact Zd0 _ _⟩;rw[g,x.w,I];exact run_buildSlice E.w T t.elem len Q C ie t.ezero hu n o (by rw[O];omega) (by rw[O];omega) (by rw[O];exact h1)
   ·exact a.elim
  ·exact a.elim
def ZGt:List Entry->Nat->Option (TypeId×Dp)
 |[],_=>none
 |e::_,0=>match e with
  | .arr g t _=>some (g,.flat t)
  |_=>none
 |_::r,n+1=>ZGt r n
def ZH6 (s:SV) (H:List Entry):Option (TypeId×Dp) :=
 match s with
 | .own I=>ZGt H I
 |_=>none
def ZHL (g:TypeId) (e:Dp) (t:TI) (r:List SV) (x:SV) (o i:Option Operand) (H:List Entry) (K:SV->List Entry->Prop):Prop :=
 if e.ty.size=t.esize then closeAll (.ol g e) [x] H λd H1=>Ziz r o 0 λl=>Ziz r i d.length λh=>0<=l/\l<=h/\h<=(d.length:Int)/\Jd (.ol g e) ((d.drop l.toNat).take (h.toNat-l.toNat)) H1 λcs H2=>match cs with
  |[s]=>K s H2
  |_=>False
 else False
def ZBb (t:TI) (r:List SV) (x:SV) (o l:Option Operand) (H:List Entry) (K:SV->List Entry->Prop):Prop :=
 match t.kind with
 | .sl=>match Zzj x H with
   |some (g,e)=>ZHL g e t r x o l H K
   | none=>if t.cut=true then (match ZH6 x H with
     |some (g,e)=>ZHL g e t r x o l H K
     | none=>ZuF t r x o l H K) else ZuF t r x o l H K
 |_=>ZuF t r x o l H K
variable {v:Value}
theorem Zyf {w:World} {e:TypeId} {z n:Nat} {xs:List Value} (h:w.Zaf 0 e z v n xs) {l k:Nat} (x:l<=k:=by omega) (s:k<=n:=by omega) :
  ∃a c,v=.slice a n c/\n<=c/\w.Zaf 0 e z (.slice (if c-l=0 then a else a.map (·.add (l*z))) (k-l) (c-l)) (k-l) ((xs.drop (l*z)).take ((k-l)*z))/\(Y4 (.slice (if c-l=0 then a else a.map (·.add (l*z))) (k-l) (c-l))).toList=(Y4 v).toList:=by
 have q:=h.1;have j:l*z+(k-l)*z<=n*z:=by rw[<-Nat.add_mul];exact U8 _ (by omega)
 rcases h.2 with⟨rfl,rfl⟩|⟨g,c,cur,o,rfl,d,r,G,m,X,p⟩
 ·have f:k=0:=by omega
  have i:l=0:=by omega
  subst f;subst i;exact⟨none,0,rfl,UO _,⟨by simp,.inl ⟨by simp,rfl⟩⟩,by simp[Y4]⟩
 ·have H:((xs.drop (l*z)).take ((k-l)*z)).length=(k-l)*z:=by
   rw[Uk,UY,q];omega
  refine⟨_,c,rfl,G,?_⟩;by_cases T:c-l=0
  ·rw[Uc T]
   have b:k-l=0:=by omega
   refine⟨⟨H,.inr ⟨g,c-l,cur,o,rfl,d,r,by omega,by omega,?_,?_⟩⟩,rfl⟩
   ·rw[T,Nat.zero_mul];omega
   ·rw[b,Nat.zero_mul,Kt,Kt]
  ·rw[Ue T]
   have t:l*z+(c-l)*z=c*z:=by rw[<-Nat.add_mul];congr 1;omega
   refine⟨⟨H,.inr ⟨g,c-l,cur,o+l*z,by simp only[UV,add_eq],d,r,by omega,by omega,by omega,?_⟩⟩,?_⟩
   ·rw[<-p,List.drop_take,List.take_take,List.drop_drop,Nat.min_eq_left (by omega)]
   ·simp only[UV,add_eq];rfl
variable {r:List SV} {a:Act} {x:SV}
theorem Zzh (hI:Inv B E H) (hd:Yu E r a.tmps.toList) {ti:TI} (h:ZeP P T ti) (O:ti.kind=.sl) {D:TypeId} (hx:den E x v)
  {L z:Option Operand} (b:ZHL D e ti r x L z H K) :
  ∃u E' H' s,(Instr.sliceAt T v (L.map a.eval) (z.map a.eval) none).run P E.w=.ok u E'.w/\Inv B E' H'/\E.le E'/\den E' s u/\K s H'/\Grow E.w E'.w:=by
 unfold ZHL at b;split at b
 ·rename_i Q
  obtain⟨E1,H1,d,f,p,G,Z,b,J,_,_⟩:=Jh hI (show Yu E [x] [v]from⟨hx,trivial⟩) (Loose.none B E H) b;obtain⟨l',b,m⟩:=ZcR (ZX p.le _ _ hd) b;obtain⟨j,b,U⟩:=ZcR (ZX p.le _ _ hd) b;obtain⟨h0,h1,h2,b⟩:=b;obtain⟨v',xs,a6,ev,ho,Z,ef⟩:=Z;simp at ev;subst ev;obtain⟨hu,_,ie,W,a4,_⟩:=h.slice O;obtain⟨a0,c,hv,a5,Y,N⟩:=Zyf ho (l:=l'.toNat) (k:=j.toNat);obtain⟨f0,f3,A,a2⟩:=ZrQ (λd vs f=>ZdL e d vs f) _ _ _ Z l'.toNat;obtain⟨F,f2,C,a1⟩:=Zn4 (λd vs f=>ZdL e d vs f) _ _ _ a2 (j.toNat-l'.toNat);have t:((d.drop l'.toNat).take (j.toNat-l'.toNat)).length=j.toNat-l'.toNat:=by rw[Uk,UY];omega
  have i:List.Sublist ((Y4 v).toList++F) (f++[]):=by
   rw[Un,ef,A,C];exact List.Sublist.append (List.Sublist.refl _) ((List.sublist_append_left _ _).trans (List.sublist_append_right _ _))
  have M:Loose B E1 H1 ((Y4 v).toList++F++[]):=by
   rw[Un];exact⟨J.nodup.sublist i,λg R=>J.free g (i.subset R),λg R=>J.apart g (i.subset R)⟩
  have a3:Zi4 E1.S E1.w (.ol D e) ((d.drop l'.toNat).take (j.toNat-l'.toNat)) [.slice (if c-l'.toNat=0 then a0 else a0.map (·.add (l'.toNat*e.ty.size))) (j.toNat-l'.toNat) (c-l'.toNat)] ((Y4 v).toList++F) :=
   ⟨_,_,F,rfl,by rw[t];exact Y,a1,by rw[N]⟩
  obtain⟨E2,H2,cs,y,a7,I,q,o,b,_,_⟩:=Zas (.ol D e) _ G a3 M b;split at b
  ·rename_i s
   simp only[Yu]at o;refine⟨_,E2,H2,s,?_,I,p.le.trans q,o.1,b,by rw[y,p.w];exact Grow.refl _⟩;rw[y,p.w,hv,Q,<-a4];simp only[Instr.sliceAt,Instr.slice,Sem.run_bind,run_underlying hu,Result.andThen_ok];have X:L.map a.eval=none/\l'=0\/∃k,L.map a.eval=some (.int k l'):=by
    rcases m with⟨rfl,e⟩|m
    ·exact .inl ⟨rfl,e⟩
    ·exact .inr m
   have V:z.map a.eval=none/\j=(d.length:Int)\/∃k,z.map a.eval=some (.int k j):=by
    rcases U with⟨rfl,e⟩|U
    ·exact .inl ⟨rfl,e⟩
    ·exact .inr U
   rw[ZfZ E.w true d.length c _ _ l' j h0 h1 (by omega) X V];simp only[Result.andThen_ok,run_sizeOf W];by_cases hz:c-l'.toNat=0
   ·have n:c=l'.toNat:=by omega
    simp[n]
   ·have n:¬c=l'.toNat:=by omega
    simp[hz,n]
  ·exact b.elim
 ·exact b.elim
theorem ZBc (m:Inv B E H) (N:Yu E r a.tmps.toList) (h:ZeP P T t) (l:den E x v)
  {o i:Option Operand} (k:ZBb t r x o i H K) :
  ∃u E' H' s,(Instr.sliceAt T v (o.map a.eval) (i.map a.eval) none).run P E.w=.ok u E'.w/\Inv B E' H'/\E.le E'/\den E' s u/\K s H'/\Grow E.w E'.w:=by
 unfold ZBb at k;split at k
 ·rename_i e
  split at k
  ·exact Zzh m N h e l k
  ·split at k
   ·split at k
    ·exact Zzh m N h e l k
    ·exact Zqw m N h l k
   ·exact Zqw m N h l k
 ·exact Zqw m N h l k
end
section
variable {P:Program}
theorem Zt7 (w:World):w.grownBy w none:=⟨rfl,rfl,rfl,UO _,λ_ _ _=>rfl⟩
variable {B:Base} {E:Env} {H:List Entry} {I:Nat} {e:Dp} {d:List e.ty.den}
theorem Zyr (m:Inv B E H) {t:TypeId} {n:Int} {f:List Nat} (k:H[I]?=some (.spl t e d n f)) {x:e.ty.den} (a:n<(d.length:Int)) (o:d[n.toNat]?=some x) :
  Inv B E (H.set I (.hsp t e d n (Zhr e.ty x) f)):=by
 obtain⟨v,l,⟨xs,X,D,F,z,s,C,ex,r,i,c,q⟩,b⟩:=m.ent I _ k;have y:=(Ua.1 o).1;have N:d.drop n.toNat=x::d.drop (n.toNat+1):=by
  rw[Kw y];congr 1;exact(Ua.1 o).2
 rw[N]at c;obtain⟨V,A,p,h,j⟩:=c;exact m.ZxC k rfl l (row:=none) (λg e=>by cases e) (Zt7 E.w) (.hsp t e d n (Zhr e.ty x) f) (λ_ g u=>u)
  ⟨v,xs,X,V,A,F,l,z,s,a,by rw[ex,p,Uj],r,QD e.ty _ _ h,i,j,Qg e.ty x V h,q,b⟩
def ZET (t:TI) (s:SV) (H:List Entry) (K:SV->List Entry->Prop):Prop :=
 match s with
 | .oep I z i o=>ZiG H I λM=>match M with
  | .spl _ e d n _=>if e.ty.size=z then n<=i/\Zlu d i λx=>JE e.ty x λcells=>ZkI cells o λcs=>JW t cs λr=>K r H else False
  |_=>ZCG t s H K
 |_=>ZCG t s H K
variable {T:TypeId} {s:SV} {v:Value}
theorem ZCH (f:Inv B E H) {D:TI} (h:ZeP P T D) (q:den E s v) {K:SV->List Entry->Prop} (k:ZET D s H K) :
  ∃u r E' H',E'.w=E.w/\ZBR P E.w (Instr.loadAt T v) u/\Inv B E' H'/\E.le E'/\den E' r u/\K r H':=by
 unfold ZET at k;split at k
 ·rename_i X z i o
  obtain⟨en,M,k⟩:=XB H k;split at k
  ·rename_i et e d n fp
   split at k
   ·rename_i A
    obtain⟨R,N,O,k⟩:=k;have l:i.toNat<d.length:=by omega
    have C:d[i.toNat]?=some d[i.toNat]:=Ub l;have k:=k _ C;simp only[QS,ZdY]at k;obtain⟨v',y,⟨xs,x1,x2,f1,U,h0,h1,ex,F,V,p,ef⟩,Q⟩:=f.ent X _ M;simp only[den]at q;obtain⟨b,g,m,c,G,rfl⟩:=q;have:=G.symm.trans y;simp at this;subst this;have J:(d.drop n.toNat)[i.toNat-n.toNat]?=some d[i.toNat]:=by
     rw[Ky,show n.toNat+(i.toNat-n.toNat)=i.toNat by omega];exact C
    obtain ⟨vs,x,t⟩:=Zjn (λd vs=>QD e.ty d vs) _ _ p _ _ J;have a:=U.ZiY rfl;obtain ⟨u,r,Y,Z,k3⟩:=ZjV h E.w ⟨b,g+(i.toNat*z+o),none⟩ k (vs.drop o) (Zbg _ _ (Qg e.ty _ vs x) o) (λj u W=>by
     have I:=t (o+j) u (by simpa using W);have S:i.toNat*e.ty.size=n.toNat*e.ty.size+(i.toNat-n.toNat)*e.ty.size:=by rw[<-Nat.add_mul,show n.toNat+(i.toNat-n.toNat)=i.toNat by omega]
     have L:xs[i.toNat*e.ty.size+(o+j)]?=some u:=by
      rw[ex,UE (by omega),F,show i.toNat*e.ty.size+(o+j)-n.toNat*e.ty.size=(i.toNat-n.toNat)*e.ty.size+(o+j) by omega];exact I
     have:=a _ u L;rw[add_eq] at this ⊢;rw[A] at this;rw[show g+(i.toNat*z+o)+j=g+(i.toNat*z+(o+j)) by omega];exact this)
    refine⟨u,r,E,H,rfl,λw' hst=>?_,f,Env.le.refl E,Z,k3⟩;simp only[Instr.loadAt,Instr.sureAddr,pure_bind];exact Y w' hst
   ·exact k.elim
  ·exact ZwU f h q k
 ·exact ZwU f h q k
def Zpl (t:TI) (I z:Nat) (o:Nat) (sx:SV) (H:List Entry) (K:List Entry->Prop):Prop :=
 if(sx.whole&&Zru sx.cells&&Zrt sx.cells t.size)=true then ZiG H I λM=>match M with
  | .hsp g e d j cells f=>if cells.length=z/\o+t.size<=z then Zmm cells o sx.cells λw=>ZjD H I (.hsp g e d j w f) K else False
  |_=>False
 else False
def ZBk (t:TI) (s sx:SV) (H:List Entry) (K:List Entry->Prop):Prop :=
 match s with
 | .oep I z i o=>ZiG H I λM=>match M with
  | .spl g e d n f=>i=n/\Zlu d n λx=>JE e.ty x λcells=>ZjD H I (.hsp g e d n cells f) λH'=>Zpl t I z o sx H' K
  | .hsp _ _ _ j _ _=>i=j/\Zpl t I z o sx H K
  |_=>Zxw t s sx H K
 |_=>Zxw t s sx H K
variable {sx:SV} {et:TypeId} {K:List Entry->Prop}
theorem ZqJ (W:Inv B E H) {M:TI} (h:ZeP P T M) {N z:Nat} {i:Int} {O:Nat} {va x:Value} (ha:den E (.oep N z i O) va) (hx:den E sx x) {cells:List SV} {fp:List Nat} (J:H[N]?=some (.hsp et e d i cells fp)) (k:Zpl M N z O sx H K):∃E' H',(Instr.storeAt T va x).run P E.w=.ok () E'.w/\Inv B E' H'/\E.le E'/\K H'/\E.w.grownBy E'.w (Y4 va):=by
 unfold Zpl at k;split at k
 ·rename_i hc
  simp only[Ur,Zrt,Kl]at hc;obtain⟨⟨hw,h1⟩,u⟩:=hc;have A:=Zbe hx hw;have hl:=Xo _ _ A;have a5:=Zix _ _ A h1;have d3:x.cells.size=M.size:=by rw[<-UK,<-hl,u]
  have a:x.cells.toList.length=M.size:=by rw[<-hl,u]
  obtain⟨en,b3,k⟩:=XB H k;have:=J.symm.trans b3;simp at this;subst this;simp only at k;split at k
  ·rename_i L
   obtain⟨L,d4⟩:=L;rw[Zjz]at k;simp only[Qa]at k;simp only[den]at ha;obtain⟨b,q,n,c,U,rfl⟩:=ha;obtain⟨v,xs,x1,V,x2,f1,k1,ho,b5,b6,ex,R,a9,d1,d2,Z,ef,p⟩:=W.ent N _ J;have:=U.symm.trans k1;simp at this;subst this;have F:V.length=z:=by rw[<-Xo _ _ Z];exact L
   have s:e.ty.size=z:=by rw[<-a9,F]
   rcases ho.2 with⟨hv,_⟩|⟨g,a8,cur,o,hv,b4,hh,G,b9,X,m⟩
   ·simp at hv
   ·simp only[Value.slice.injEq,Option.some.injEq,Addr.mk.injEq,and_true]at hv
    obtain⟨⟨b0,b1⟩,d0,b2⟩:=hv;subst b0;subst b1;rw[s]at ho X m R;have b8:i.toNat<d.length:=by omega
    have l:cur.toList.length=cur.size:=UK;have Y:q+d.length*z<=cur.toList.length:=by rw[l];exact Ko (Nat.add_le_add_left (U8 _ G) _) X
    have b7:i.toNat*z+z<=d.length*z:=by rw[<-Kc];exact U8 _ b8
    have a6:=Zj4 h E.w b (q+(i.toNat*z+O)) x cur et hh d3 (by rw[<-l];omega) a5;have r:=ZgS E.w b (cur.toList.take (q+(i.toNat*z+O))++x.cells.toList++cur.toList.drop (q+(i.toNat*z+O)+M.size)).toArray;have C:b∈fp:=by rw[ef];simp[Y4]
    have j:=ZfG r W.Slt (λg Q=>by simp at Q;subst Q;exact(W.free N _ _ _ J rfl U C).1);have D:∀f':List Nat,(∀g∈f',g∈f1)->∀g∈f',(E.w.setRow b (cur.toList.take (q+(i.toNat*z+O))++x.cells.toList++cur.toList.drop (q+(i.toNat*z+O)+M.size)).toArray).heap[g]?=E.w.heap[g]?:=by
     intro f' y g a4;have a0:g∈fp:=by rw[ef];simp[y g a4]
     refine r.block g (W.free N _ _ _ J rfl U a0).2.2 (λQ=>?_);simp at Q;subst Q;rw[ef]at p;simp only[Y4,Option.toList,U3,Uw,List.nodup_cons]at p;exact p.1 (y g a4)
    have hsp:=ZjY (t:=z) cur.toList x.cells.toList q (d.length*z) i.toNat O Y b7 (by rw[a];omega);rw[a,m]at hsp;have a1:xs.take (i.toNat*z)=x1:=by rw[ex,<-R,Uj,KF]
    have a2:(xs.drop (i.toNat*z)).take z=V:=by rw[ex,<-R,Uj,KV,<-F,KF]
    have a3:xs.drop (i.toNat*z+z)=x2:=by rw[ex,<-R,<-F,show x1.length+V.length=(x1++V).length by simp,KV]
    rw[a1,a2,a3]at hsp;have I:=Zh7 (ZX j _ _ Z) (ZX j _ _ A) O;rw[a]at I;refine⟨⟨E.S,E.w.setRow b _,E.ids⟩,_,a6,W.ZxC J rfl U (row:=some b) (λg Q=>by simp at Q;subst Q;exact C) r (.hsp et e d i (cells.take O++(sx.cells++cells.drop (O+sx.cells.length))) fp) (λ_ g r=>r) ?_,j,k,r⟩;refine⟨_,x1++(V.take O++x.cells.toList++V.drop (O+M.size))++x2,x1,_,x2,f1,U,⟨?_,.inr ⟨b,a8,_,q,?_,b4,setRow_heap E.w b cur _ et (0,0) hh,by simpa using G,b9,?_,?_⟩⟩,b5,b6,rfl,by rw[R,s],?_,?_,?_,I,ef,p⟩
    ·have a7:=ho.1
     rw[ex]at a7;rw[s];simp only[Ug,Uk,UY,a]at a7 ⊢;omega
    ·rw[d0,b2]
    ·rw[Kk,s]
     simp only[Ug,Uk,UY,a];rw[<-l]at X;omega
    ·rw[List.toList_toArray,s];exact hsp
    ·rw[s]
     simp only[Ug,Uk,UY,a];omega
    ·exact QE _ _ _ (λd vs f hs=>Y5 j.S j.w e d vs f (D f (λg r=>hs g r))) d1
    ·exact J8 (λd vs=>YL j.S j.w e.ty d vs) _ _ d2
  ·exact k.elim
 ·exact k.elim
theorem ZBl (m:Inv B E H) {c:TI} (h:ZeP P T c) {x:Value} (a:den E s v) (l:den E sx x) (k:ZBk c s sx H K):∃E' H',(Instr.storeAt T v x).run P E.w=.ok () E'.w/\Inv B E' H'/\E.le E'/\K H'/\E.w.grownBy E'.w (Y4 v):=by
 unfold ZBk at k;split at k
 ·rename_i I z i O
  obtain⟨M,b,k⟩:=XB H k;split at k
  ·rename_i f e d n p
   obtain⟨rfl,q,o,k⟩:=k;have t:i.toNat<d.length:=by omega
   have g:d[i.toNat]?=some d[i.toNat]:=Ub t;have k:=k _ g;simp only[QS,Qa]at k;have A:=Zyr m b o g;exact ZqJ A h a l (UG (Ua.1 b).1) k
  ·rename_i f e d j cells p
   obtain⟨rfl,k⟩:=k;exact ZqJ m h a l b k
  ·exact ZuN m h a l k
 ·exact ZuN m h a l k
def Zza (g:TypeId) (e:Dp) (I:Nat) (H:List Entry) (K:List e.ty.den->Int->List Entry->Prop):Prop :=
 ZiG H I λM=>match M with
  | .arr E t d=>if h:t=e.ty then(if E=g then ZjD H I .gone λH'=>ZxJ h d λD=>K D 0 H' else False)else False
  | .spl E a d n _=>if h:a=e then(if E=g then ZjD H I .gone λH'=>Zvc h d λD=>K D n H' else False)else False
  | .hsp E a d i cells _=>if h:a=e then (if E=g then ZjD H I .gone λH0=>Zvc h d λD=>Zax e cells H0 λx rest H1=>match rest with
    |[]=>K (D.set i.toNat x) (i+1) H1
    |_=>False
   else False) else False
  |_=>False
theorem Zzb (l:Inv B E H) {gs:List Nat} (P:Loose B E H gs) {K:List e.ty.den->Int->List Entry->Prop} (T:Zza et e I H K) :
  ∃E' H' d n u f,Frz E H E' H'/\Inv B E' H'/\E'.ids[I]?=some u/\(∀c,H[I]?≠some (.box c))/\ZGZ E'.S E'.w et e d n u f/\K d n H'/\Loose B E' H' (f++gs)/\∀(i:Nat) (c:List SV),H[i]?=some (.box c)->H'[i]?=some (.box c):=by
 unfold Zza at T;obtain⟨en,m,q⟩:=XB H T;clear T;split at q
 ·rename_i y t d
  split at q
  ·rename_i C;subst C
   split at q
   ·rename_i k;subst k
    rw[Qa,Zwq] at q;obtain ⟨v,xs,a,M,h3⟩:=l.ent I _ m;refine ⟨E,_,d,0,v,(Y4 v).toList,Frz.one m rfl a rfl (Env.le.refl E) (λb r=>.inl r),l.drop I,a,(λc o=>by rw[m] at o;cases o),⟨xs,[],xs,[],M,by omega,by omega,rfl,by simp,⟨rfl,rfl⟩,h3,by simp⟩,q,?_,ZkC m (λc h=>by cases h)⟩;exact P.take l m rfl a (by cases Y4 v<;>simp) (λg z=>by
     show Y4 v=some g;simpa using z)
   ·exact q.elim
  ·exact q.elim
 ·rename_i y F d n L
  split at q
  ·rename_i C;subst C
   split at q
   ·rename_i k;subst k
    rw[Qa,Zlb]at q;obtain⟨v,a,hr,h5⟩:=l.ent I _ m;exact⟨E,_,d,n,v,L,Frz.one m rfl a rfl (Env.le.refl E) (λb r=>.inl r),l.drop I,a,(λc o=>by rw[m]at o;cases o),hr,q,P.take l m rfl a h5 (λg z=>z),ZkC m (λc h=>by cases h)⟩
   ·exact q.elim
  ·exact q.elim
 ·rename_i y F d i cells L
  split at q
  ·rename_i C;subst C
   split at q
   ·rename_i k;subst k
    rw[Qa,Zlb]at q;obtain⟨v,xs,x1,vx,x2,J,a,M,a0,a1,ex,el,G,W,X,R,ef,V⟩:=l.ent I _ m;have t1:Frz E H E (H.set I .gone):=Frz.one m rfl a rfl (Env.le.refl E) (λb r=>.inl r);obtain⟨E',H',x,rest,u1,u2,f,p,N,eu,Y,D,q,Q,hT,r⟩:=ZdX F cells (l.drop I) R (P.take l m rfl a V (λg z=>z)) q;split at q
    ·have Z:u2=[]:=by cases u2 with
      |nil=>rfl
      |cons=>simp[Yu]at D
     subst Z;rw[Un]at eu;subst eu;have O:∀(g:Nat),E'.w.heap[g]?=E.w.heap[g]?:=λg=>by rw[p.w]
     have U:i.toNat<d.length:=by omega
     have s:(f++(L++gs)).Perm ((Y4 v).toList++(J++f)++gs):=by
      rw[<-Uj];refine List.Perm.append_right gs ?_;rw[ef,<-Uj (Y4 v).toList];exact U0
     have A:(d.set i.toNat x).take (i.toNat+1)=d.take i.toNat++[x]:=by
      rw[List.take_add_one,UG U,List.take_set,List.set_eq_of_length_le (by simp;omega)];rfl
     refine⟨E',H',d.set i.toNat x,i+1,v,(Y4 v).toList++(J++f),t1.trans p,N,by rw[p.ids];exact a,(λc o=>by rw[m]at o;cases o),⟨xs,x1++vx,x2,J++f,?_,by omega,by simp;omega,by rw[ex],?_,?_,?_,rfl⟩,q,Q.perm s,λj c hj=>r j c (ZkC m (λc h=>by cases h) j c hj)⟩
     ·rw[UH,p.w];exact M
     ·rw[Ug,el,G,show(i+1).toNat=i.toNat+1 by omega,Kc]
     ·rw[show(i+1).toNat=i.toNat+1 by omega,A]
      exact ZiN _ _ _ _ _ _ (QE _ _ _ (λd vs f _=>Y5 p.le.S p.le.w F d vs f (λg _=>O g)) W) ⟨vx,[],f,[],by simp,by simp,Y,rfl,rfl⟩
     ·rw[show(i+1).toNat=i.toNat+1 by omega,List.drop_set_of_lt (by omega)]
      exact J8 (λd vs=>YL p.le.S p.le.w F.ty d vs) _ _ X
    ·exact q.elim
   ·exact q.elim
  ·exact q.elim
 ·exact q.elim
end
end Go.Sx
