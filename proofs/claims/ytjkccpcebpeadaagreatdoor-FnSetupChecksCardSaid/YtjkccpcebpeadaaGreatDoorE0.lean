/-
  Lists of one's own that begin within their block: what the kit says of lists that begin at a block's head, said anew.
-/
import Derived.WalkKit
import Derived.Great.BuildSlice
import Derived.Laws.StructEq
import Derived.Laws.MakeOwn
import Derived.Laws.OwnMore
namespace Go
theorem U1:type_of% @Array.getElem?_eq_some_iff:=@Array.getElem?_eq_some_iff
theorem Kh:type_of% @Array.getElem?_toList:=@Array.getElem?_toList
theorem Ux:type_of% @Array.length_toList:=@Array.length_toList
theorem Up:type_of% @Bool.and_eq_true:=@Bool.and_eq_true
theorem Ko:type_of% @Bool.eq_iff_iff:=@Bool.eq_iff_iff
theorem UN:type_of% @Bool.false_eq_true:=@Bool.false_eq_true
theorem UO:type_of% @Bool.not_eq_true':=@Bool.not_eq_true'
theorem KD:type_of% @Bool.or_eq_true:=@Bool.or_eq_true
theorem KE:type_of% @Bool.true_and:=@Bool.true_and
theorem Uz:type_of% @Classical.byContradiction:=@Classical.byContradiction
theorem Kj:type_of% @Classical.choose_spec:=@Classical.choose_spec
theorem KT:type_of% @Iff.rfl:=@Iff.rfl
theorem K2:type_of% @Int.add_zero:=@Int.add_zero
theorem U7:type_of% @Int.le_refl:=@Int.le_refl
theorem Ui:type_of% @Int.lt_irrefl:=@Int.lt_irrefl
theorem KF:type_of% @Int.mul_le_mul_of_nonneg_left:=@Int.mul_le_mul_of_nonneg_left
theorem Kq:type_of% @Int.mul_le_mul_of_nonneg_right:=@Int.mul_le_mul_of_nonneg_right
theorem Hw:type_of% @Int.mul_nonneg:=@Int.mul_nonneg
theorem U8:type_of% @Int.tdiv_eq_ediv_of_nonneg:=@Int.tdiv_eq_ediv_of_nonneg
theorem KC:type_of% @Int.tmod_lt_of_pos:=@Int.tmod_lt_of_pos
theorem KW:type_of% @Int.tmod_nonneg:=@Int.tmod_nonneg
theorem UG:type_of% @Int.toNat_natCast:=@Int.toNat_natCast
theorem Kw:type_of% @List.all_eq_true:=@List.all_eq_true
theorem KN:type_of% @List.any_eq_true:=@List.any_eq_true
theorem Un:type_of% @List.append_assoc:=@List.append_assoc
theorem Um:type_of% @List.append_nil:=@List.append_nil
theorem U0:type_of% @List.cons_append:=@List.cons_append
theorem KA:type_of% @List.countP_append:=@List.countP_append
theorem K1:type_of% @List.countP_cons:=@List.countP_cons
theorem KV:type_of% @List.countP_le_length:=@List.countP_le_length
theorem KJ:type_of% @List.countP_pos_iff:=@List.countP_pos_iff
theorem KY:type_of% @List.drop_left:=@List.drop_left
theorem KL:type_of% @List.drop_zero:=@List.drop_zero
theorem UC:type_of% @List.eq_nil_of_length_eq_zero:=@List.eq_nil_of_length_eq_zero
theorem UI:type_of% @List.ext_getElem?:=@List.ext_getElem?
theorem U9:type_of% @List.findIdx?_eq_some_iff_getElem:=@List.findIdx?_eq_some_iff_getElem
theorem Hy:type_of% @List.foldl_cons:=@List.foldl_cons
theorem Uy:type_of% @List.getElem?_append_left:=@List.getElem?_append_left
theorem UY:type_of% @List.getElem?_append_right:=@List.getElem?_append_right
theorem U3:type_of% @List.getElem?_cons_succ:=@List.getElem?_cons_succ
theorem KG:type_of% @List.getElem?_cons_zero:=@List.getElem?_cons_zero
theorem Km:type_of% @List.getElem?_drop:=@List.getElem?_drop
theorem Ua:type_of% @List.getElem?_eq_getElem:=@List.getElem?_eq_getElem
theorem Uv:type_of% @List.getElem?_eq_none:=@List.getElem?_eq_none
theorem Ub:type_of% @List.getElem?_eq_some_iff:=@List.getElem?_eq_some_iff
theorem UL:type_of% @List.getElem?_map:=@List.getElem?_map
theorem Kf:type_of% @List.getElem?_range:=@List.getElem?_range
theorem Kc:type_of% @List.getElem?_replicate:=@List.getElem?_replicate
theorem UX:type_of% @List.getElem?_set:=@List.getElem?_set
theorem UH:type_of% @List.getElem?_set_ne:=@List.getElem?_set_ne
theorem UF:type_of% @List.getElem?_set_self:=@List.getElem?_set_self
theorem UB:type_of% @List.getElem?_take:=@List.getElem?_take
theorem KZ:type_of% @List.isEmpty_iff:=@List.isEmpty_iff
theorem Uh:type_of% @List.length_append:=@List.length_append
theorem Uf:type_of% @List.length_cons:=@List.length_cons
theorem US:type_of% @List.length_drop:=@List.length_drop
theorem U5:type_of% @List.length_map:=@List.length_map
theorem Ug:type_of% @List.length_nil:=@List.length_nil
theorem UT:type_of% @List.length_replicate:=@List.length_replicate
theorem UZ:type_of% @List.length_set:=@List.length_set
theorem UV:type_of% @List.length_singleton:=@List.length_singleton
theorem Uo:type_of% @List.length_take:=@List.length_take
theorem Kp:type_of% @List.map_append:=@List.map_append
theorem KK:type_of% @List.map_congr_left:=@List.map_congr_left
theorem Kv:type_of% @List.map_cons:=@List.map_cons
theorem Hx:type_of% @List.map_nil:=@List.map_nil
theorem Uu:type_of% @List.mem_append:=@List.mem_append
theorem Us:type_of% @List.mem_cons:=@List.mem_cons
theorem UP:type_of% @List.mem_cons_of_mem:=@List.mem_cons_of_mem
theorem UK:type_of% @List.mem_cons_self:=@List.mem_cons_self
theorem UA:type_of% @List.mem_iff_getElem?:=@List.mem_iff_getElem?
theorem KQ:type_of% @List.mem_map:=@List.mem_map
theorem Ud:type_of% @List.mem_of_getElem?:=@List.mem_of_getElem?
theorem Ke:type_of% @List.mem_or_eq_of_mem_set:=@List.mem_or_eq_of_mem_set
theorem Ky:type_of% @List.mem_range:=@List.mem_range
theorem Ut:type_of% @List.mem_singleton:=@List.mem_singleton
theorem Uq:type_of% @List.nil_append:=@List.nil_append
theorem UW:type_of% @List.nodup_append:=@List.nodup_append
theorem KU:type_of% @List.nodup_cons:=@List.nodup_cons
theorem KM:type_of% @List.nodup_nil:=@List.nodup_nil
theorem UR:type_of% @List.not_mem_nil:=@List.not_mem_nil
theorem KS:type_of% @List.pairwise_cons:=@List.pairwise_cons
theorem UU:type_of% @List.perm_append_comm:=@List.perm_append_comm
theorem Ks:type_of% @List.replicate_succ:=@List.replicate_succ
theorem U6:type_of% @List.size_toArray:=@List.size_toArray
theorem Kz:type_of% @List.take_append_drop:=@List.take_append_drop
theorem Ur:type_of% @List.take_length:=@List.take_length
theorem KO:type_of% @List.take_of_length_le:=@List.take_of_length_le
theorem Ki:type_of% @List.take_zero:=@List.take_zero
theorem KI:type_of% @List.toList_toArray:=@List.toList_toArray
theorem Kt:type_of% @Nat.add_zero:=@Nat.add_zero
theorem KP:type_of% @Nat.eq_zero_or_pos:=@Nat.eq_zero_or_pos
theorem UE:type_of% @Nat.le_refl:=@Nat.le_refl
theorem Kg:type_of% @Nat.le_trans:=@Nat.le_trans
theorem KX:type_of% @Nat.lt_irrefl:=@Nat.lt_irrefl
theorem UD:type_of% @Nat.lt_of_lt_of_le:=@Nat.lt_of_lt_of_le
theorem Kk:type_of% @Nat.mul_le_mul:=@Nat.mul_le_mul
theorem U2:type_of% @Nat.mul_le_mul_right:=@Nat.mul_le_mul_right
theorem U4:type_of% @Nat.succ_mul:=@Nat.succ_mul
theorem Uw:type_of% @Nat.zero_add:=@Nat.zero_add
theorem UM:type_of% @Nat.zero_le:=@Nat.zero_le
theorem KH:type_of% @Option.bind_eq_some_iff:=@Option.bind_eq_some_iff
theorem UQ:type_of% @Option.getD_some:=@Option.getD_some
theorem Ku:type_of% @Option.map_eq_some_iff:=@Option.map_eq_some_iff
theorem Kl:type_of% @Option.map_some:=@Option.map_some
theorem Kb:type_of% @beq_iff_eq:=@beq_iff_eq
theorem Ka:type_of% @congrArg:=@congrArg
theorem Kx:type_of% @decide_eq_decide:=@decide_eq_decide
theorem Kr:type_of% @decide_eq_false_iff_not:=@decide_eq_false_iff_not
theorem UJ:type_of% @decide_eq_true:=@decide_eq_true
theorem Ul:type_of% @decide_eq_true_eq:=@decide_eq_true_eq
theorem KB:type_of% @decide_eq_true_iff:=@decide_eq_true_iff
theorem Uj:type_of% @if_false:=@if_false
theorem Ue:type_of% @if_neg:=@if_neg
theorem Uc:type_of% @if_pos:=@if_pos
theorem Qe{c:Prop}{_:Decidable c}{α:Sort _}{t e:α}(h:c:=by omega):ite c t e=t:=if_pos h
theorem Qu{c:Prop}{_:Decidable c}{α:Sort _}{t e:α}(h:¬c:=by omega):ite c t e=e:=if_neg h
theorem Uk:type_of% @if_true:=@if_true
theorem Kd:type_of% @or_false:=@or_false
set_option linter.unusedVariables false
set_option linter.unusedSimpArgs false
def World.Jr (w:World) (base:Nat) (e:TypeId) (size:Nat) (v:Value) (n:Nat) (xs:List Value):Prop :=
  xs.length=n*size/\
  ((v=.slice none 0 0/\n=0)\/
   ∃ g c cur o,v=.slice (some ⟨g,o,none⟩) n c/\base<=g/\w.heap[g]?=some (.cells cur e (0,0))/\n<=c/\c<=maxLen/\o+c*size<=cur.size/\(cur.toList.drop o).take (n*size)=xs)
section
variable {w:World} {base:Nat} {e:TypeId} {size:Nat} {v:Value} {n:Nat} {xs:List Value}
theorem World.Zjd (w:World) (base:Nat) (e:TypeId) (size:Nat):w.Jr base e size (.slice none 0 0) 0 []:=⟨by simp,.inl ⟨rfl,rfl⟩⟩
theorem World.Jr.lt (h:w.Jr base e size v n xs):∀k,v.ownBlock=some k->base<=k/\k<w.heap.size:=by
 intro k H;rcases h.2 with⟨rfl,_⟩|⟨g,c,cur,o,rfl,b,a,_⟩
 ·simp[Value.ownBlock]at H
 ·simp[Value.ownBlock]at H
  subst H;exact⟨b,(U1.1 a).1⟩
theorem World.Jr.Zgh (h:w.Jr base e size v n xs) {g o l c:Nat} (d:v=.slice (some ⟨g,o,none⟩) l c):∀j u,xs[j]?=some u->w.cell? ((⟨g,o,none⟩:Addr).add j)=some u:=by
 intro j u a;rcases h.2 with⟨rfl,_⟩|⟨G,p,cur,o',rfl,_,b,_,_,_,H⟩
 ·cases d
 ·injection d with e1 f i
  injection e1 with e1
  injection e1 with e1 E
  subst e1;subst E;rw[Addr.add_lit,cell_of_row w G (o'+j) cur e (0,0) b];rw[<-H,UB]at a;split at a
  ·rw[Km]at a;simpa using a
  ·cases a
end
section
variable {P:Program} (w:World)
theorem Zg0 (t ty e:TypeId) (i:TypeInfo) (r:P.underlying t=some (.slice e)) (l:P.info? e=some i)
  (g o s p:Nat) (cur:Array Value) (k:w.heap[g]?=some (.cells cur e (0,0)))
  (a:Addr) (m c:Nat) (n:List Value) (q:n.length=m*i.size) (h:∀j u,n[j]?=some u->w.cell? (a.add j)=some u) (d:∀u∈n,u.oneCell'=true)
  (H:s+m<=p) (b:o+s*i.size+n.length<=cur.size) :
  (Builtin.append_ #[t,t] ty #[.slice (some ⟨g,o,none⟩) s p,.slice (some a) m c]).run P w =
   .ok (.slice (some ⟨g,o,none⟩) (s+m) p) (w.setRow g (cur.toList.take (o+s*i.size)++n++cur.toList.drop (o+s*i.size+n.length)).toArray):=by
 have f:=run_firstCells_some (P:=P) w i.size m a m c n q h;have hst:=run_storeCells_at P g (o+s*i.size) e n 0 cur w k (by simpa using b) d;simp only[Kt]at hst;simp[Builtin.append_,run_underlying r,sizeOf,typeInfo,l,Builtin.lenOf,H,f,Addr.add_lit,hst]
variable (base:Nat)
theorem ZeV (t ty e:TypeId) (i:TypeInfo) (size:Nat) (r:P.underlying t=some (.slice e)) (l:P.info? e=some i)
  (v:Value) (n:Nat) (xs:List Value) (h:w.Jr base e size v n xs) :
  (Builtin.append_ #[t,t] ty #[v,.slice none 0 0]).run P w=.ok v w:=by
 rcases h.2 with⟨rfl,rfl⟩|⟨g,p,cur,o,rfl,_,_,c,_⟩
 ·simp[Builtin.append_,run_underlying r,sizeOf,typeInfo,l,Builtin.lenOf,Builtin.firstCells]
 ·simp[Builtin.append_,run_underlying r,sizeOf,typeInfo,l,Builtin.lenOf,Builtin.firstCells,c,storeCells]
theorem Zk0 (t ty e:TypeId) (i:TypeInfo) (z:Value) (size bytes:Nat) (I:P.underlying t=some (.slice e)) (F:P.info? e=some i) (S:i.zero=some z)
  (A:i.size=size) (K:i.bytes=bytes) (N:z.cells.size=size) (Y:0<size)
  (v:Value) (n:Nat) (xs:List Value) (h:w.Jr base e size v n xs)
  (a:Addr) (m c:Nat) (s:List Value) (y:s.length=m*size) (H:∀j u,s[j]?=some u->w.cell? (a.add j)=some u) (T:∀u∈s,u.oneCell'=true)
  (C:n+m<=maxLen) (f:(n+m)*bytes<=140737488355328) (q:base<=w.heap.size) :
  ∃v' w',(Builtin.append_ #[t,t] ty #[v,.slice (some a) m c]).run P w=.ok v' w'/\w'.Jr base e size v' (n+m) (xs++s)/\w.grownBy w' v.ownBlock/\
   (v'=.slice none 0 0<->v=.slice none 0 0/\m=0):=by
 subst A;subst K
 have G:n+m<=9223372036854775807:=by simp only[maxLen]at C;omega
 have l:(xs++s).length=(n+m)*i.size:=by rw[Uh,h.1,y,Nat.add_mul]
 have grown:∀(d:Nat),d<n+m->∀(row:Option Nat),
   (w.drew.alloc (.cells (xs.toArray++s.toArray++Builtin.zeroCells z.cells (grownCap w (n+m) d e-(n+m))) e)).Jr base e i.size
    (.slice (some ⟨w.heap.size,0,none⟩) (n+m) (grownCap w (n+m) d e)) (n+m) (xs++s)/\
   w.grownBy (w.drew.alloc (.cells (xs.toArray++s.toArray++Builtin.zeroCells z.cells (grownCap w (n+m) d e-(n+m))) e)) row:=by
  intro d ho row;have L:=grownCap_ge w (n+m) d e;have x:grownCap w (n+m) d e<=maxLen:=grownCap_le_maxLen w (n+m) d e C;refine⟨⟨l,.inr ⟨w.heap.size,_,_,0,rfl,q,heap_alloc_new w.drew _,L,x,?_,?_⟩⟩,⟨rfl,rfl,rfl,by simp,λk M _=>heap_alloc_old w.drew _ M⟩⟩
  ·simp only[Array.size_append,U6,size_zeroCells,N,h.1,y,<-Nat.add_mul]
   rw[Uw];exact U2 _ (by omega)
  ·simp only[Array.toList_append,Un,KL]
   rw[<-Un,<-l];exact List.take_left
 rcases h.2 with⟨rfl,rfl⟩|⟨g,p,cur,o,rfl,J,O,X,x,V,B⟩
 ·have Z:xs=[]:=UC (by simpa using h.1)
  subst Z;by_cases Q:m=0
  ·subst Q
   have W:s=[]:=UC (by simpa using y);subst W;refine⟨.slice none 0 0,w,?_,World.Zjd w base e i.size,⟨rfl,rfl,rfl,UE _,λ_ _ _=>rfl⟩,by simp⟩;simp[Builtin.append_,run_underlying I,sizeOf,typeInfo,F,Builtin.lenOf,Builtin.firstCells,loadCells,loadCellsFrom]
  ·have E:=run_append_nil (P:=P) w t ty e i z I F S a m c s y H (by omega) (by omega) (by have U:=f;simp only[Uw]at U;omega)
   have r:=grown 0 (by omega) (Value.ownBlock (.slice none 0 0));simp only[Uw,Uq,Array.empty_append]at r ⊢;exact⟨_,_,E,r.1,r.2,by simp[Q]⟩
 ·by_cases b:n+m<=p
  ·have R:n*i.size+m*i.size<=p*i.size:=by rw[<-Nat.add_mul];exact U2 _ b
   have D:o+n*i.size+s.length<=cur.size:=by rw[y];omega
   have E:=Zg0 (P:=P) w t ty e i I F g o n p cur O a m c s y H T b D;have a0:=h.1;refine⟨_,_,E,⟨l,.inr ⟨g,p,_,o,rfl,J,setRow_heap w g cur _ e _ O,b,x,?_,?_⟩⟩,⟨rfl,rfl,rfl,by simp,λk _ M=>setRow_other w g k _ (λe=>M (by simp[Value.ownBlock,e]))⟩,by simp⟩
   ·simp only[U6,Uh,Uo,US,Ux]
    omega
   ·have e1:cur.toList.take (o+n*i.size)=cur.toList.take o++xs:=by rw[List.take_add,B]
    simp only[e1,Un];rw[List.drop_append_of_le_length (by rw[Uo,Ux];omega),List.drop_eq_nil_of_le (by rw[Uo];omega),Uq,<-Un,<-l];exact List.take_left
  ·have holds:∀j u,xs[j]?=some u->w.cell? ((⟨g,o,none⟩:Addr).add j)=some u:=h.Zgh rfl
   have E:=run_append_grow (P:=P) w t ty e i z I F S ⟨g,o,none⟩ n p xs h.1 holds a m c s y H (by omega) (by omega) (growslice_fits (by omega) f);have r:=grown p (by omega) (Value.ownBlock (.slice (some ⟨g,o,none⟩) n p));exact⟨_,_,E,r.1,r.2,by simp⟩
end
end Go
namespace Go.Sx
set_option linter.unusedVariables false
set_option linter.unusedSimpArgs false
inductive Ty
 |int (k:IntKind)
 |bool
 |str
 |sl (t:Ty)
 |unit
 |pair (a b:Ty)
 |ptr (t:Ty)
 |fn (f:FuncId) (t:Ty)
 |nptr (t:Ty)
 |mp (k v:Ty)
 deriving DecidableEq
@[reducible] def Ty.den:Ty->Type
 | .int _=>Int
 | .bool=>Bool
 | .str=>List UInt8
 | .sl t=>List t.den
 | .unit=>Unit
 | .pair a b=>a.den×b.den
 | .ptr t=>t.den
 | .fn _ t=>t.den
 | .nptr t=>Option t.den
 | .mp k v=>List (k.den×v.den)
def Zx {α β:Type} (d:α×β) (K:α->β->Prop):Prop:=match d with
 |(x,y)=>K x y
theorem V3 {α β:Type} (d:α×β) (K:α->β->Prop):Zx d K=K d.1 d.2:=rfl
def Zux {t' t:Ty} (h:t'=t) (d:List t'.den) (K:List t.den->Prop):Prop:=Eq.rec (motive:=λt _=>(List t.den->Prop)->Prop) (λK=>K d) h K
def ZzZ {t' t:Ty} (h:t'=t) (d:Option t'.den) (K:Option t.den->Prop):Prop:=Eq.rec (motive:=λt _=>(Option t.den->Prop)->Prop) (λK=>K d) h K
theorem Ztp {t' t:Ty} (h:t'=t) (d:Option t'.den) (K:Option t.den->Prop):ZzZ h d K=K (h▸d):=by subst h;rfl
theorem Zto {t' t:Ty} (h:t'=t) (d:List t'.den) (K:List t.den->Prop):Zux h d K=K (h▸d):=by subst h;rfl
def Ty.size:Ty->Nat
 | .unit=>0
 | .pair a b=>a.size+b.size
 |_=>1
def Ty.agg:Ty->Bool
 | .unit=>true
 | .pair _ _=>true
 |_=>false
def Ty.flat:Ty->Bool
 | .sl _=>false
 | .ptr _=>false
 | .fn _ _=>false
 | .nptr _=>false
 | .mp _ _=>false
 | .pair a b=>a.flat&&b.flat
 |_=>true
def QH {α:Type} (R:α->List Value->Prop):List α->List Value->Prop
 |[],xs=>xs=[]
 |d::l,xs=>∃v1 v,xs=v1++v/\R d v1/\QH R l v
def Ziq (agg:Bool) (v:Value):Prop:=(agg=true->∃cs,v=.agg cs)/\(agg=false->v.cells=#[v])
def ZeK {α β:Type} (R:α->List Value->Prop) (Q:β->List Value->Prop) (k v:Bool):List (α×β)->List MapEntry->Prop
 |[],s=>s=[]
 |d::l,s=>∃e r,s=e::r/\Ziq k e.key/\R d.1 e.key.cells.toList/\Ziq v e.val/\Q d.2 e.val.cells.toList/\ZeK R Q k v l r
def rep (S:Nat->Prop) (w:World):(t:Ty)->t.den->List Value->Prop
 | .int k,n,vs=>vs=[.int k n]
 | .bool,b,vs=>vs=[.bool b]
 | .str,s,vs=>vs=[.string ⟨s.toArray⟩]
 | .sl t,l,vs=>∃a c,vs=[.slice a l.length c]/\l.length<=c/\(a=none->c=0)/\
   (l=[]\/∃p xs,a=some p/\p.spot=none/\S p.block/\(∀j u,xs[j]?=some u->w.cell? (p.add j)=some u)/\QH (rep S w t) l xs)
 | .unit,_,vs=>vs=[]
 | .pair a b,d,vs=>∃v1 V,vs=v1++V/\rep S w a d.1 v1/\rep S w b d.2 V
 | .ptr t,d,vs=>∃p xs,vs=[.pointer (some p)]/\p.spot=none/\S p.block/\(∀j u,xs[j]?=some u->w.cell? (p.add j)=some u)/\rep S w t d xs
 | .fn f t,d,vs=>∃xs,vs=[.func (.func f) #[] xs.toArray]/\rep S w t d xs
 | .nptr t,d,vs=>(d=none/\vs=[.pointer none])\/∃x p xs,d=some x/\vs=[.pointer (some p)]/\p.spot=none/\S p.block/\(∀j u,xs[j]?=some u->w.cell? (p.add j)=some u)/\rep S w t x xs
 | .mp k v,d,vs=>(d=[]/\vs=[.map none])\/∃b e C,vs=[.map (some b)]/\S b/\w.heap[b]?=some (.map e C)/\ZeK (rep S w k) (rep S w v) k.agg v.agg d e.toList
theorem VN {α:Type} {R R':α->List Value->Prop} (h:∀d vs,R d vs->R' d vs):∀l xs,QH R l xs->QH R' l xs
 |[],_,e=>e
 |_::l,_,⟨v1,v,e,r,s⟩=>⟨v1,v,e,h _ _ r,VN h l _ s⟩
theorem ZbS {α β:Type} {R R':α->List Value->Prop} {Q Q':β->List Value->Prop} {k v:Bool} (h:∀d vs,R d vs->R' d vs) (H:∀d vs,Q d vs->Q' d vs):∀l s,ZeK R Q k v l s->ZeK R' Q' k v l s
 |[],_,e=>e
 |_::l,_,⟨e,r,e1,f1,r1,f2,r2,a⟩=>⟨e,r,e1,f1,h _ _ r1,f2,H _ _ r2,ZbS h H l _ a⟩
theorem Yo {S S':Nat->Prop} {w w':World} (s:∀b,S b->S' b) (c:∀b,S b->w'.heap[b]?=w.heap[b]?) :
  ∀(t:Ty) (d:t.den) (vs:List Value),rep S w t d vs->rep S' w' t d vs
 | .int _,_,_,h=>h
 | .bool,_,_,h=>h
 | .str,_,_,h=>h
 | .unit,_,_,h=>h
 | .pair a b,_,_,⟨v1,V,e,m,f⟩=>⟨v1,V,e,Yo s c a _ _ m,Yo s c b _ _ f⟩
 | .ptr t,_,_,⟨p,xs,e,g,H,Z,E⟩=>⟨p,xs,e,g,s _ H,λj u i=>by
     have f:(p.add j).block=p.block:=by unfold Addr.add;split<;>rfl
     rw[World.cell?_of_block (w:=w) (by rw[f];exact c _ H)];exact Z j u i,Yo s c t _ _ E⟩
 | .fn _ t,_,_,⟨xs,e,E⟩=>⟨xs,e,Yo s c t _ _ E⟩
 | .nptr t,_,_,.inl h=>.inl h
 | .nptr t,_,_,.inr ⟨x,p,xs,n,e,g,H,Z,E⟩=>.inr ⟨x,p,xs,n,e,g,s _ H,λj u i=>by
     have f:(p.add j).block=p.block:=by unfold Addr.add;split<;>rfl
     rw[World.cell?_of_block (w:=w) (by rw[f];exact c _ H)];exact Z j u i,Yo s c t _ _ E⟩
 | .mp k v,_,_,.inl h=>.inl h
 | .mp k v,_,_,.inr ⟨b,o,l,e,f,hh,h⟩=>.inr ⟨b,o,l,e,s _ f,by rw[c _ f];exact hh,ZbS (λd vs=>Yo s c k d vs) (λd vs=>Yo s c v d vs) _ _ h⟩
 | .sl t,_,_,⟨a,C,e,q,W,h⟩=>⟨a,C,e,q,W,by
   rcases h with h|⟨p,xs,m,g,H,Z,E⟩
   ·exact .inl h
   ·exact .inr ⟨p,xs,m,g,s _ H,λj u i=>by
     have f:(p.add j).block=p.block:=by unfold Addr.add;split<;>rfl
     rw[World.cell?_of_block (w:=w) (by rw[f];exact c _ H)];exact Z j u i,
     VN (λd vs=>Yo s c t d vs) _ _ E⟩⟩
theorem Zje {S S':Nat->Prop} {w w':World}:∀(t:Ty),t.flat=true->∀(d:t.den) (vs:List Value),rep S w t d vs->rep S' w' t d vs
 | .int _,_,_,_,h=>h
 | .bool,_,_,_,h=>h
 | .str,_,_,_,h=>h
 | .unit,_,_,_,h=>h
 | .pair a b,f,_,_,⟨v1,v,e,m,H⟩=>by
   simp only[Ty.flat,Up]at f;exact⟨v1,v,e,Zje a f.1 _ _ m,Zje b f.2 _ _ H⟩
 | .sl _,f,_,_,_=>by simp[Ty.flat]at f
 | .ptr _,f,_,_,_=>by simp[Ty.flat]at f
 | .fn _ _,f,_,_,_=>by simp[Ty.flat]at f
 | .nptr _,f,_,_,_=>by simp[Ty.flat]at f
 | .mp _ _,f,_,_,_=>by simp[Ty.flat]at f
theorem X3 {S:Nat->Prop} {w:World}:∀(t:Ty) (d:t.den) (vs:List Value),rep S w t d vs->vs.length=t.size
 | .int _,_,_,h=>by cases h;rfl
 | .bool,_,_,h=>by cases h;rfl
 | .str,_,_,h=>by cases h;rfl
 | .unit,_,_,h=>by cases h;rfl
 | .pair a b,_,_,⟨v1,v,e,m,g⟩=>by
   have H:=X3 a _ _ m;have f:=X3 b _ _ g;subst e;simp[Ty.size,H,f]
 | .sl _,_,_,⟨a,c,e,_⟩=>by subst e;rfl
 | .ptr _,_,_,⟨_,_,e,_⟩=>by subst e;rfl
 | .fn _ _,_,_,⟨_,e,_⟩=>by subst e;rfl
 | .nptr _,_,_,.inl ⟨_,e⟩=>by subst e;rfl
 | .nptr _,_,_,.inr ⟨_,_,_,_,e,_⟩=>by subst e;rfl
 | .mp _ _,_,_,.inl ⟨_,e⟩=>by subst e;rfl
 | .mp _ _,_,_,.inr ⟨_,_,_,e,_⟩=>by subst e;rfl
theorem ZkY {α:Type} {R:α->List Value->Prop} {n:Nat} (W:∀d vs,R d vs->vs.length=n):∀l xs,QH R l xs->xs.length=l.length*n
 |[],xs,e=>by cases e;simp
 |d::l,xs,⟨v1,v,e,r,s⟩=>by
   subst e;have h:=W _ _ r;have f:=ZkY W l _ s;simp[h,f,U4,Nat.add_comm]
theorem Zh2 {α:Type} {R:α->List Value->Prop}:∀l L xs x,QH R l xs->QH R L x->QH R (l++L) (xs++x)
 |[],_,_,_,e,h=>by cases e;exact h
 |d::l,L,_,x,⟨v1,v,e,r,s⟩,h=>⟨v1,v++x,by subst e;simp,r,Zh2 l L v x s h⟩
theorem Zhx {α:Type} {R:α->List Value->Prop} {n:Nat} (W:∀d vs,R d vs->vs.length=n):∀l xs,QH R l xs->∀i d,l[i]?=some d->
  ∃vs,R d vs/\∀j u,vs[j]?=some u->xs[i*n+j]?=some u
 |[],_,_,i,d,h=>by simp at h
 |d0::l,xs,⟨v1,v,e,r,s⟩,0,d,h=>by
   simp at h;subst h;subst e;refine⟨v1,r,λj u a=>?_⟩;have b:j<v1.length:=(Ub.1 a).1;simp[Uy b,a]
 |d0::l,xs,⟨v1,v,e,r,s⟩,i+1,d,h=>by
   simp at h;subst e;obtain⟨vs,E,Z⟩:=Zhx W l v s i d h;refine⟨vs,E,λj u a=>?_⟩;have H:=W _ _ r;rw[UY (by rw[H,U4];omega),H];rw[show(i+1)*n+j-n=i*n+j by rw[U4];omega];exact Z j u a
theorem Zj8 {α:Type} {R:α->List Value->Prop} {n:Nat} (W:∀d vs,R d vs->vs.length=n):∀l xs,QH R l xs->∀i,
  QH R (l.drop i) (xs.drop (i*n))
 |[],_,e,i=>by cases e;simp[QH]
 |d0::l,xs,h,0=>by simpa using h
 |d0::l,xs,⟨v1,v,e,r,s⟩,i+1=>by
   subst e;have H:=W _ _ r;have f:=Zj8 W l v s i;rw[List.drop_succ_cons,show(i+1)*n=v1.length+i*n by rw[H,U4];omega,<-List.drop_drop,KY];exact f
theorem Zj9 {α:Type} {R:α->List Value->Prop} {n:Nat} (W:∀d vs,R d vs->vs.length=n):∀l xs,QH R l xs->∀i,
  QH R (l.take i) (xs.take (i*n))
 |[],_,e,i=>by cases e;simp[QH]
 |d0::l,xs,h,0=>by simp[QH]
 |d0::l,xs,⟨v1,v,e,r,s⟩,i+1=>by
   subst e;have H:=W _ _ r;have f:=Zj9 W l v s i;rw[List.take_succ_cons,show(i+1)*n=v1.length+i*n by rw[H,U4];omega,List.take_append];exact⟨v1,_,by simp[KO],r,f⟩
theorem Zpz {α:Type} {R:α->List Value->Prop} {n:Nat} (W:∀d vs,R d vs->vs.length=n):∀l xs,QH R l xs->∀i d vs,i<l.length->R d vs->
  QH R (l.set i d) (xs.take (i*n)++vs++xs.drop (i*n+n))
 |[],_,_,i,_,_,h,_=>by simp at h
 |d0::l,xs,⟨v1,v,e,r,s⟩,0,d,vs,_,E=>by
   subst e;have H:=W _ _ r;refine⟨vs,v,by simp[List.drop_append,H],E,s⟩
 |d0::l,xs,⟨v1,v,e,r,s⟩,i+1,d,vs,a,E=>by
   subst e;have H:=W _ _ r;have f:=Zpz W l v s i d vs (by simpa using a) E;refine⟨v1,_,?_,r,f⟩;rw[show(i+1)*n=v1.length+i*n by rw[H,U4];omega,show v1.length+i*n+n=v1.length+(i*n+n) by omega,List.take_append,List.drop_append];simp[KO]
inductive SV
 |bot
 |int (k:IntKind) (n:Int)
 |bool (b:Bool)
 |blit (b:Bool)
 |str (s:List UInt8)
 |sl (t:Ty) (d:List t.den)
 |nsl
 |ptr (id off:Nat)
 |own (id:Nat)
 |oep (id:Nat) (sz:Nat) (i:Int) (off:Nat)
 |fptr (cells:List SV)
 |agg (cells:List SV)
 |tup (cells:List SV)
 |fn (f:FuncId) (caps:List SV)
 |nilp
 |nptr (t:Ty) (d:Option t.den)
 |mown (id:Nat)
 |mp (k v:Ty) (d:List (k.den×v.den))
structure Env where
 S:Nat->Prop
 w:World
 ids:List Value
mutual
def den (E:Env):SV->Value->Prop
 | .bot,_=>True
 | .int k n,v=>v=.int k n
 | .bool b,v=>v=.bool b
 | .blit b,v=>v=.bool b
 | .str s,v=>v=.string ⟨s.toArray⟩
 | .sl t d,v=>rep E.S E.w (.sl t) d [v]
 | .nsl,v=>v=.slice none 0 0
 | .ptr I o,v=>∃b,E.ids[I]?=some (.pointer (some ⟨b,0,none⟩))/\v=.pointer (some ⟨b,o,none⟩)
 | .own I,v=>E.ids[I]?=some v/\∃a n c,v=.slice a n c
 | .oep I z i o,v=>∃b B n c,E.ids[I]?=some (.slice (some ⟨b,B,none⟩) n c)/\v=.pointer (some ⟨b,B+(i.toNat*z+o),none⟩)
 | .fptr cs,v=>∃p vs,v=.pointer (some p)/\p.spot=none/\E.S p.block/\(∀j u,vs[j]?=some u->E.w.cell? (p.add j)=some u)/\Yf E cs vs
 | .agg cs,v=>∃vs,v=.agg vs.toArray/\Yf E cs vs
 | .tup cs,v=>∃vs,v=.tuple vs.toArray/\Yf E cs vs
 | .fn f cs,v=>∃vs,v=.func (.func f) #[] vs.toArray/\Yf E cs vs
 | .nilp,v=>v=.pointer none
 | .nptr t d,v=>rep E.S E.w (.nptr t) d [v]
 | .mown I,v=>E.ids[I]?=some v/\∃b,v=.map (some b)
 | .mp k e d,v=>rep E.S E.w (.mp k e) d [v]
def Yf (E:Env):List SV->List Value->Prop
 |[],[]=>True
 |c::cs,v::vs=>den E c v/\Yf E cs vs
 |_,_=>False
end
structure Env.le (E E':Env):Prop where
 S:∀b,E.S b->E'.S b
 w:∀b,E.S b->E'.w.heap[b]?=E.w.heap[b]?
 ids:∀(i:Nat) (v:Value),E.ids[i]?=some v->E'.ids[i]?=some v
theorem Env.le.refl (E:Env):E.le E:=⟨λ_ h=>h,λ_ _=>rfl,λ_ _ h=>h⟩
theorem Env.le.trans {A B C:Env} (h:A.le B) (k:B.le C):A.le C :=
 ⟨λb H=>k.S b (h.S b H),λb H=>(k.w b (h.S b H)).trans (h.w b H),λi v a=>k.ids i v (h.ids i v a)⟩
variable (p:Addr) (j:Nat)
theorem add_block:(p.add j).block=p.block:=by unfold Addr.add;split<;>rfl
variable (i:Nat)
theorem add_add (j:Nat) (g:p.spot=none):(p.add i).add j=p.add (i+j):=by
 unfold Addr.add;by_cases d:i=0
 ·simp[d]
 ·by_cases f:j=0
  ·simp[d,f]
  ·have:¬(i+j=0):=by omega
   simp[d,f,Nat.add_assoc]
theorem ZpQ (g:p.spot=none):(p.add i).spot=none:=by unfold Addr.add;split<;>simp[g]
theorem add_eq (b o j:Nat):(⟨b,o,none⟩:Addr).add j=⟨b,o+j,none⟩:=by unfold Addr.add;split<;>simp_all
mutual
theorem ZgL {E E':Env} (h:E.le E'):∀(s:SV) (v:Value),den E s v->den E' s v
 | .bot,_,_=>trivial
 | .int _ _,_,e=>e
 | .bool _,_,e=>e
 | .blit _,_,e=>e
 | .str _,_,e=>e
 | .sl t d,v,e=>Yo h.S h.w (.sl t) d [v] e
 | .nsl,_,e=>e
 | .ptr _ _,_,⟨b,e1,f⟩=>⟨b,h.ids _ _ e1,f⟩
 | .own _,_,⟨e1,f⟩=>⟨h.ids _ _ e1,f⟩
 | .oep _ _ _ _,_,⟨b,B,n,c,e1,f⟩=>⟨b,B,n,c,h.ids _ _ e1,f⟩
 | .fptr cs,_,⟨p,vs,e1,f,i,a,g⟩=>⟨p,vs,e1,f,h.S _ i,λj u H=>by
   rw[World.cell?_of_block (w:=E.w) (by rw[add_block];exact h.w _ i)];exact a j u H,ZO h cs vs g⟩
 | .agg cs,_,⟨vs,e1,f⟩=>⟨vs,e1,ZO h cs vs f⟩
 | .tup cs,_,⟨vs,e1,f⟩=>⟨vs,e1,ZO h cs vs f⟩
 | .fn _ cs,_,⟨vs,e1,f⟩=>⟨vs,e1,ZO h cs vs f⟩
 | .nilp,_,e=>e
 | .nptr t d,v,e=>Yo h.S h.w (.nptr t) d [v] e
 | .mown _,_,⟨e1,f⟩=>⟨h.ids _ _ e1,f⟩
 | .mp k u d,v,e=>Yo h.S h.w (.mp k u) d [v] e
theorem ZO {E E':Env} (h:E.le E'):∀(cs:List SV) (vs:List Value),Yf E cs vs->Yf E' cs vs
 |[],[],_=>trivial
 |c::cs,v::vs,⟨e1,f⟩=>⟨ZgL h c v e1,ZO h cs vs f⟩
 |[],_::_,e=>e
 |_::_,[],e=>e
end
theorem YG {E:Env}:∀(cs:List SV) (vs:List Value),Yf E cs vs->cs.length=vs.length
 |[],[],_=>rfl
 |c::cs,v::vs,h=>by simp only[Yf]at h;simp[YG cs vs h.2]
 |[],_::_,h=>by simp[Yf]at h
 |_::_,[],h=>by simp[Yf]at h
theorem Ze9 {E:Env}:∀(cs:List SV) (vs:List Value),Yf E cs vs->∀i c v,den E c v->Yf E (cs.set i c) (vs.set i v)
 |[],[],h,i,c,v,_=>by simpa using h
 |c0::cs,v0::vs,h,0,c,v,q=>by simp only[Yf]at h;exact⟨q,h.2⟩
 |c0::cs,v0::vs,h,i+1,c,v,q=>by simp only[Yf]at h;exact⟨h.1,Ze9 cs vs h.2 i c v q⟩
 |[],_::_,h,_,_,_,_=>by simp[Yf]at h
 |_::_,[],h,_,_,_,_=>by simp[Yf]at h
theorem ZaS {E:Env}:∀(cs:List SV) (vs:List Value),Yf E cs vs->∀C V,Yf E C V->Yf E (cs++C) (vs++V)
 |[],[],_,_,_,H=>H
 |c::cs,v::vs,h,C,V,H=>by simp only[Yf]at h;exact⟨h.1,ZaS cs vs h.2 C V H⟩
 |[],_::_,h,_,_,_=>by simp[Yf]at h
 |_::_,[],h,_,_,_=>by simp[Yf]at h
theorem JL {E:Env}:∀(cs:List SV) (vs:List Value),Yf E cs vs->∀i,Yf E (cs.drop i) (vs.drop i)
 |cs,vs,h,0=>by simpa using h
 |[],[],_,i+1=>by simp[Yf]
 |c::cs,v::vs,h,i+1=>by simp only[Yf]at h;simpa using JL cs vs h.2 i
 |[],_::_,h,_+1=>by simp[Yf]at h
 |_::_,[],h,_+1=>by simp[Yf]at h
theorem Zgk {E:Env}:∀(cs:List SV) (vs:List Value),Yf E cs vs->∀i,Yf E (cs.take i) (vs.take i)
 |cs,vs,h,0=>by simp[Yf]
 |[],[],_,i+1=>by simp[Yf]
 |c::cs,v::vs,h,i+1=>by simp only[Yf]at h;simp only[List.take_succ_cons,Yf];exact⟨h.1,Zgk cs vs h.2 i⟩
 |[],_::_,h,_+1=>by simp[Yf]at h
 |_::_,[],h,_+1=>by simp[Yf]at h
def ZfK:(t:Ty)->t.den->List SV
 | .int k,n=>[.int k n]
 | .bool,b=>[.bool b]
 | .str,s=>[.str s]
 | .sl t,l=>[.sl t l]
 | .unit,_=>[]
 | .pair a b,d=>ZfK a d.1++ZfK b d.2
 | .ptr t,d=>[.fptr (ZfK t d)]
 | .fn f t,d=>[.fn f (ZfK t d)]
 | .nptr t,d=>[.nptr t d]
 | .mp k v,d=>[.mp k v d]
theorem XB {E:Env}:∀(t:Ty) (d:t.den) (vs:List Value),rep E.S E.w t d vs->Yf E (ZfK t d) vs
 | .int _,_,_,h=>by cases h;exact⟨rfl,trivial⟩
 | .bool,_,_,h=>by cases h;exact⟨rfl,trivial⟩
 | .str,_,_,h=>by cases h;exact⟨rfl,trivial⟩
 | .unit,_,_,h=>by cases h;exact trivial
 | .sl t,l,vs,h=>by
   have H:=h;obtain⟨a,c,e,_⟩:=h;subst e;exact⟨H,trivial⟩
 | .pair a b,_,_,⟨v1,V,e,m,g⟩=>by
   subst e;exact ZaS _ _ (XB a _ _ m) _ _ (XB b _ _ g)
 | .ptr t,_,_,⟨p,xs,e,i,s,Z,r⟩=>by
   subst e;exact⟨⟨p,xs,rfl,i,s,Z,XB t _ _ r⟩,trivial⟩
 | .fn f t,_,_,⟨xs,e,r⟩=>by
   subst e;exact⟨⟨xs,rfl,XB t _ _ r⟩,trivial⟩
 | .nptr t,d,vs,h=>by
   have H:=h;rcases h with⟨_,e⟩|⟨_,_,_,_,e,_⟩<;>subst e<;>exact⟨H,trivial⟩
 | .mp k v,d,vs,h=>by
   have H:=h;rcases h with⟨_,e⟩|⟨_,_,_,e,_⟩<;>subst e<;>exact⟨H,trivial⟩
inductive Dp
 |flat (t:Ty)
 |ol (et:TypeId) (e:Dp)
 |pair (a b:Dp)
 |mp (k v:Ty)
 deriving DecidableEq
@[reducible] def Dp.ty:Dp->Ty
 | .flat t=>t
 | .ol _ e=>.sl e.ty
 | .pair a b=>.pair a.ty b.ty
 | .mp k v=>.mp k v
def Yv:Value->Option Nat
 | .pointer (some a)=>some a.block
 | .slice (some a) _ _=>some a.block
 | .map (some b)=>some b
 |_=>none
def Zai {α:Type} (R:α->List Value->List Nat->Prop):List α->List Value->List Nat->Prop
 |[],xs,f=>xs=[]/\f=[]
 |d::l,xs,f=>∃v1 v f1 f2,xs=v1++v/\f=f1++f2/\R d v1 f1/\Zai R l v f2
def ZgF (S:Nat->Prop) (w:World):(e:Dp)->e.ty.den->List Value->List Nat->Prop
 | .flat t,d,vs,f=>f=[]/\rep S w t d vs
 | .ol c e,l,vs,f=>∃v xs s,vs=[v]/\w.Jr 0 c e.ty.size v l.length xs/\Zai (ZgF S w e) l xs s/\f=(Yv v).toList++s
 | .pair a b,d,vs,f=>∃v1 V f1 f2,vs=v1++V/\f=f1++f2/\ZgF S w a d.1 v1 f1/\ZgF S w b d.2 V f2
 | .mp k v,d,vs,f=>∃b E C,vs=[.map (some b)]/\f=[b]/\w.heap[b]?=some (.map E C)/\ZeK (rep S w k) (rep S w v) k.agg v.agg d E.toList
theorem X4 {α:Type} {R R':α->List Value->List Nat->Prop}:∀(l:List α) (xs:List Value) (p:List Nat),(∀d vs f,(∀g∈f,g∈p)->R d vs f->R' d vs f)->Zai R l xs p->Zai R' l xs p
 |[],_,_,_,e=>e
 | _::l,_,p,h,⟨v1,v,f1,f2,e,E,r,s⟩=>⟨v1,v,f1,f2,e,E,h _ _ _ (λg a=>by rw[E];simp[a]) r,
   X4 l _ _ (λd vs f H=>h d vs f (λg a=>by rw[E];simp[H g a])) s⟩
variable {w w':World} {base:Nat} {e:TypeId} {n:Nat} {v:Value} {xs:List Value}
theorem Zgp {z:Nat} (h:w.Jr base e z v n xs) (b:∀g,Yv v=some g->w'.heap[g]?=w.heap[g]?):w'.Jr base e z v n xs:=by
 refine⟨h.1,?_⟩;rcases h.2 with W|⟨g,c,cur,o,rfl,a,hh,r⟩
 ·exact .inl W
 ·exact .inr ⟨g,c,cur,o,rfl,a,by rw[b g rfl];exact hh,r⟩
theorem Yw {S S':Nat->Prop} {w w':World} (s:∀b,S b->S' b) (i:∀b,S b->w'.heap[b]?=w.heap[b]?) :
  ∀(e:Dp) (d:e.ty.den) (vs:List Value) (p:List Nat),(∀g∈p,w'.heap[g]?=w.heap[g]?)->ZgF S w e d vs p->ZgF S' w' e d vs p
 | .flat t,_,_,_,_,⟨l,m⟩=>⟨l,Yo s i t _ _ m⟩
 | .ol q e,_,_,p,H,⟨v,xs,F,e1,o,r,E⟩=>⟨v,xs,F,e1,Zgp o (λg c=>H g (by rw[E];simp[c])),
   X4 _ _ _ (λd vs f j=>Yw s i e d vs f (λg c=>H g (by rw[E];simp[j g c]))) r,E⟩
 | .mp k v,_,_,p,H,⟨b,n,C,e1,E,hh,h⟩=>⟨b,n,C,e1,E,by rw[H b (by rw[E];simp)];exact hh,ZbS (λd vs=>Yo s i k d vs) (λd vs=>Yo s i v d vs) _ _ h⟩
 | .pair a b,_,_,p,H,⟨v1,V,f1,f2,e1,E,l,m⟩=>⟨v1,V,f1,f2,e1,E,Yw s i a _ _ _ (λg c=>H g (by rw[E];simp[c])) l,Yw s i b _ _ _ (λg c=>H g (by rw[E];simp[c])) m⟩
theorem Zca {S:Nat->Prop} {w:World}:∀(e:Dp) (d:e.ty.den) (vs:List Value) (f:List Nat),ZgF S w e d vs f->vs.length=e.ty.size
 | .flat t,_,_,_,⟨_,h⟩=>X3 t _ _ h
 | .ol k e,_,_,_,⟨v,xs,s,e1,_⟩=>by subst e1;rfl
 | .mp _ _,_,_,_,⟨b,j,C,e1,_⟩=>by subst e1;rfl
 | .pair a b,_,_,_,⟨v1,V,f1,f2,e1,E,H,c⟩=>by
   have g:=Zca a _ _ _ H;have i:=Zca b _ _ _ c;subst e1;simp[Dp.ty,Ty.size,g,i]
theorem Zh1 {α:Type} {R:α->List Value->List Nat->Prop} {R':α->List Value->Prop}:∀(l:List α) (xs:List Value) (p:List Nat),(∀d vs f,(∀g∈f,g∈p)->R d vs f->R' d vs)->Zai R l xs p->QH R' l xs
 |[],_,_,_,e=>e.1
 | _::l,_,p,h,⟨v1,v,f1,f2,e,E,r,s⟩=>⟨v1,v,e,h _ _ _ (λg a=>by rw[E];simp[a]) r,
   Zh1 l _ _ (λd vs f H=>h d vs f (λg a=>by rw[E];simp[H g a])) s⟩
variable {S:Nat->Prop} {t:Ty} {d:List t.den}
theorem ZrI {E:TypeId} (f:w.Jr 0 E t.size v d.length xs) (h:QH (rep S w t) d xs) (b:∀g,Yv v=some g->S g):rep S w (.sl t) d [v]:=by
 rcases f.2 with⟨rfl,W⟩|⟨g,c,cur,o,rfl,_,hh,q,_⟩
 ·exact⟨none,0,by rw[W],by omega,λ_=>rfl,.inl (UC W)⟩
 ·exact⟨_,c,rfl,q,λe=>by simp at e,.inr ⟨_,xs,rfl,rfl,b g rfl,f.Zgh rfl,h⟩⟩
theorem Zgc {S S':Nat->Prop} {w:World} (s:∀b,S b->S' b):∀(e:Dp) (d:e.ty.den) (vs:List Value) (p:List Nat),(∀g∈p,S' g)->ZgF S w e d vs p->rep S' w e.ty d vs
 | .flat t,_,_,_,_,⟨_,h⟩=>Yo s (λ_ _=>rfl) t _ _ h
 | .ol n e,_,_,p,H,⟨v,xs,F,e1,o,r,E⟩=>by
   subst e1;exact ZrI o (Zh1 _ _ _ (λd vs f j h=>Zgc s e d vs f (λg c=>H g (by rw[E];simp[j g c])) h) r) (λg c=>H g (by rw[E];simp[c]))
 | .mp k v,_,_,p,H,⟨b,i,C,e1,E,hh,h⟩=>.inr ⟨b,i,C,e1,H b (by rw[E];simp),hh,ZbS (λd vs=>Yo s (λ_ _=>rfl) k d vs) (λd vs=>Yo s (λ_ _=>rfl) v d vs) _ _ h⟩
 | .pair a b,_,_,p,H,⟨v1,V,f1,f2,e1,E,l,m⟩=>⟨v1,V,e1,Zgc s a _ _ _ (λg c=>H g (by rw[E];simp[c])) l,Zgc s b _ _ _ (λg c=>H g (by rw[E];simp[c])) m⟩
theorem ZgZ {α:Type} {R:α->List Value->List Nat->Prop}:∀l L xs x p f,Zai R l xs p->Zai R L x f->Zai R (l++L) (xs++x) (p++f)
 |[],_,_,_,_,_,⟨e1,E⟩,h=>by subst e1;subst E;exact h
 |d::l,L,_,x,_,f,⟨v1,v,f1,f2,e,a,r,s⟩,h=>⟨v1,v++x,f1,f2++f,by subst e;simp,by subst a;simp,r,ZgZ l L v x f2 f s h⟩
def ZCp (S:Nat->Prop) (w:World) (c:TypeId) (e:Dp) (d:List e.ty.den) (n:Int) (v:Value) (f:List Nat):Prop :=
 ∃xs x X f1,w.Jr 0 c e.ty.size v d.length xs/\0<=n/\n<=(d.length:Int)/\xs=x++X/\x.length=n.toNat*e.ty.size/\Zai (ZgF S w e) (d.take n.toNat) x f1/\QH (rep S w e.ty) (d.drop n.toNat) X/\f=(Yv v).toList++f1
variable {S':Nat->Prop}
theorem Zoa (s:∀b,S b->S' b) (j:∀b,S b->w'.heap[b]?=w.heap[b]?) {t:TypeId} {e:Dp} {d:List e.ty.den} {n:Int} {p:List Nat} (i:∀g∈p,w'.heap[g]?=w.heap[g]?) (h:ZCp S w t e d n v p):ZCp S' w' t e d n v p:=by
 obtain⟨xs,x,X,f1,o,k,m,ex,l,H,c,E⟩:=h;exact⟨xs,x,X,f1,Zgp o (λg a=>i g (by rw[E];simp[a])),k,m,ex,l,X4 _ _ _ (λd vs f q=>Yw s j e d vs f (λg a=>i g (by rw[E];simp[q g a]))) H,VN (λd vs=>Yo s j e.ty d vs) _ _ c,E⟩
theorem Zoc {α:Type} {R:α->List Value->List Nat->Prop} {n:Nat} (W:∀d vs f,R d vs f->vs.length=n):∀l xs p,Zai R l xs p->∀i x,l[i]?=some x->
  ∃X v a f1 F f2,xs=X++v++a/\p=f1++F++f2/\X.length=i*n/\Zai R (l.take i) X f1/\R x v F/\Zai R (l.drop (i+1)) a f2
 |[],_,_,_,i,x,h=>by simp at h
 |d::l,_,_,⟨v1,V,f1,f2,e,E,r,s⟩,0,x,h=>by
   simp at h;subst h;exact⟨[],v1,V,[],f1,f2,by simp[e],by simp[E],by simp,⟨rfl,rfl⟩,r,by simpa using s⟩
 |d::l,_,_,⟨v1,V,f1,f2,e,E,r,s⟩,i+1,x,h=>by
   obtain⟨X,v,a,g,j,G,e1,b,c,H,k,m⟩:=Zoc W l V f2 s i x (by simpa using h);have q:=W _ _ _ r;refine⟨v1++X,v,a,f1++g,j,G,by rw[e,e1];simp,by rw[E,b];simp,by rw[Uh,c,q,U4];omega,⟨v1,X,f1,g,rfl,rfl,r,H⟩,k,by simpa using m⟩
variable {i:Nat} {F:List Nat}
theorem Zu6 {α:Type} {R:α->List Value->List Nat->Prop} {l:List α} {x:α} {a v X:List Value} {f1 f2:List Nat} (h:i<l.length) (d:Zai R (l.take i) a f1) (Z:R x v F)
  (f:Zai R (l.drop (i+1)) X f2):Zai R (l.set i x) (a++v++X) (f1++F++f2):=by
 rw[List.set_eq_take_append_cons_drop,Uc h,Un,Un];exact ZgZ _ _ _ _ _ _ d ⟨v,X,F,f2,rfl,rfl,Z,f⟩
def ZqV (w w':World):Prop:=∀p u,w.cell? p=some u->w'.cell? p=some u
theorem ZqV.refl (w:World):ZqV w w:=λ_ _ h=>h
theorem ZqV.trans {a b c:World} (h:ZqV a b) (H:ZqV b c):ZqV a c:=λp u d=>H p u (h p u d)
def Grow (w w':World):Prop:=∀b,b<w.heap.size->w'.heap[b]?=w.heap[b]?
theorem Grow.refl (w:World):Grow w w:=λ_ _=>rfl
theorem Grow.ZIl (h:Grow w w'):ZqV w w':=by
 intro p u H;rw[World.cell?_of_block (w:=w) (w':=w') (a:=p) ?_]
 ·exact H
 ·refine h _ ?_
  refine Nat.lt_of_not_le λe=>?_;unfold World.cell? at H;rw[Array.getElem?_eq_none e]at H;simp at H
def ZxZ (P:Program) (w:World) (x:Sem Value) (u:Value):Prop:=∀w',ZqV w w'->x.run P w'=.ok u w'
def ZoF (P:Program) (x:Sem Value) (u:Value):Prop:=∀w',x.run P w'=.ok u w'
theorem ZxZ.here {P:Program} {x:Sem Value} {u:Value} (h:ZxZ P w x u):x.run P w=.ok u w:=h w (ZqV.refl w)
inductive Entry
 |gone
 |box (cells:List SV)
 |arr (et:TypeId) (t:Ty) (d:List t.den)
 |frz (t:Ty) (d:List t.den)
 |fbx (cells:List SV)
 |darr (et:TypeId) (e:Dp) (d:List e.ty.den) (fp:List Nat)
 |hole (et:TypeId) (e:Dp) (d:List e.ty.den) (i:Int) (cells:List SV) (fp:List Nat)
 |mpe (k v:Ty) (d:List (k.den×v.den))
 |spl (et:TypeId) (e:Dp) (d:List e.ty.den) (n:Int) (fp:List Nat)
 |hsp (et:TypeId) (e:Dp) (d:List e.ty.den) (i:Int) (cells:List SV) (fp:List Nat)
 |frm (k v:Ty) (d:List (k.den×v.den))
def Entry.live:Entry->Bool
 | .box _=>true
 | .arr _ _ _=>true
 | .darr _ _ _ _=>true
 | .hole _ _ _ _ _ _=>true
 | .mpe _ _ _=>true
 | .spl _ _ _ _ _=>true
 | .hsp _ _ _ _ _ _=>true
 |_=>false
def Zhi:Entry->Value->Nat->Prop
 | .darr _ _ _ f,_,g=>g∈f
 | .hole _ _ _ _ _ f,_,g=>g∈f
 | .spl _ _ _ _ f,_,g=>g∈f
 | .hsp _ _ _ _ _ f,_,g=>g∈f
 |_,v,g=>Yv v=some g
def Ztz (E:Env) (I:Nat):Entry->Prop
 | .gone=>True
 | .box cells=>∃b cs T,E.ids[I]?=some (.pointer (some ⟨b,0,none⟩))/\E.w.heap[b]?=some (.cells cs T (0,0))/\Yf E cells cs.toList
 | .arr c t d=>∃v xs,E.ids[I]?=some v/\E.w.Jr 0 c t.size v d.length xs/\QH (rep E.S E.w t) d xs
 | .frz t d=>∃v,E.ids[I]?=some v/\rep E.S E.w (.sl t) d [v]
 | .fbx cells=>∃b cs T,E.ids[I]?=some (.pointer (some ⟨b,0,none⟩))/\E.S b/\E.w.heap[b]?=some (.cells cs T (0,0))/\Yf E cells cs.toList
 | .darr c e d f=>∃v xs s,E.ids[I]?=some v/\E.w.Jr 0 c e.ty.size v d.length xs/\Zai (ZgF E.S E.w e) d xs s/\f=(Yv v).toList++s/\f.Nodup
 | .hole c e d i cells f=>∃v xs X x a f1 f2,E.ids[I]?=some v/\E.w.Jr 0 c e.ty.size v d.length xs/\0<=i/\i<(d.length:Int)/\xs=X++x++a/\X.length=i.toNat*e.ty.size/\x.length=e.ty.size/\
   Zai (ZgF E.S E.w e) (d.take i.toNat) X f1/\Zai (ZgF E.S E.w e) (d.drop (i.toNat+1)) a f2/\Yf E cells x/\f=(Yv v).toList++f1++f2/\f.Nodup
 | .spl c e d n f=>∃v,E.ids[I]?=some v/\ZCp E.S E.w c e d n v f/\f.Nodup
 | .hsp c e d i cells f=>∃v xs X x a f1,E.ids[I]?=some v/\E.w.Jr 0 c e.ty.size v d.length xs/\0<=i/\i<(d.length:Int)/\xs=X++x++a/\X.length=i.toNat*e.ty.size/\x.length=e.ty.size/\
   Zai (ZgF E.S E.w e) (d.take i.toNat) X f1/\QH (rep E.S E.w e.ty) (d.drop (i.toNat+1)) a/\Yf E cells x/\f=(Yv v).toList++f1/\f.Nodup
 | .mpe k v d=>∃b g C,E.ids[I]?=some (.map (some b))/\E.w.heap[b]?=some (.map g C)/\ZeK (rep E.S E.w k) (rep E.S E.w v) k.agg v.agg d g.toList
 | .frm k v d=>∃u,E.ids[I]?=some u/\rep E.S E.w (.mp k v) d [u]
structure Base where
 w:World
 S:Nat->Prop
 io:Nat->Prop
 pin:List Value
structure Keeps (B:Base) (w:World):Prop where
 os:w.os=B.w.os
 tape:w.tape=B.w.tape
 output:w.output=B.w.output
 size:B.w.heap.size<=w.heap.size
 block:∀b,b<B.w.heap.size->¬B.io b->w.heap[b]?=B.w.heap[b]?
structure Inv (B:Base) (E:Env) (H:List Entry):Prop where
 keeps:Keeps B E.w
 Slt:∀b,E.S b->b<E.w.heap.size
 Sold:∀b,E.S b->b<B.w.heap.size->B.S b\/B.io b
 len:E.ids.length=H.length
 pin:∀(i:Nat) (v:Value),B.pin[i]?=some v->E.ids[i]?=some v
 ent:∀(i:Nat) (e:Entry),H[i]?=some e->Ztz E i e
 free:∀(i:Nat) (e:Entry) (v:Value) (g:Nat),H[i]?=some e->e.live=true->E.ids[i]?=some v->Zhi e v g->¬E.S g/\(B.w.heap.size<=g\/B.io g)/\g<E.w.heap.size
 sep:∀(i j:Nat) (ei ej:Entry) (vi vj:Value) (g:Nat),H[i]?=some ei->H[j]?=some ej->ei.live=true->ej.live=true->
  E.ids[i]?=some vi->E.ids[j]?=some vj->Zhi ei vi g->Zhi ej vj g->i=j
theorem ZvC (v:Value) (g:Nat) (h:v.ownBlock=some g):Yv v=some g:=by
 cases v with
 |slice a n c=>cases a<;>simp_all[Value.ownBlock,Yv]
 |_=>simp[Value.ownBlock]at h
theorem Zb8 {size:Nat} (h:w.Jr base e size v n xs):Yv v=v.ownBlock:=by
 rcases h.2 with⟨rfl,_⟩|⟨g,c,cur,o,rfl,_⟩<;>rfl
variable {E E':Env}
theorem ZdW (h:E.le E') (i:Nat) (e:Entry)
  (s:e.live=true->∀v g,E.ids[i]?=some v->Zhi e v g->E'.w.heap[g]?=E.w.heap[g]?) (l:Ztz E i e):Ztz E' i e:=by
 cases e with
 |gone=>trivial
 |box cells =>
  obtain⟨b,cs,T,H,j,q⟩:=l;exact⟨b,cs,T,h.ids _ _ H,by rw[s rfl _ b H rfl];exact j,ZO h _ _ q⟩
 |arr D t d =>
  obtain⟨v,xs,H,j,q⟩:=l;refine⟨v,xs,h.ids _ _ H,⟨j.1,?_⟩,VN (λd vs=>Yo h.S h.w t d vs) _ _ q⟩;rcases j.2 with W|⟨g,G,cur,o,rfl,a,hh,r⟩
  ·exact .inl W
  ·exact .inr ⟨g,G,cur,o,rfl,a,by rw[s rfl _ g H rfl];exact hh,r⟩
 |frz t d =>
  obtain⟨v,H,j⟩:=l;exact⟨v,h.ids _ _ H,Yo h.S h.w (.sl t) d [v] j⟩
 |fbx cells =>
  obtain⟨b,cs,T,H,j,q,P⟩:=l;exact⟨b,cs,T,h.ids _ _ H,h.S _ j,by rw[h.w b j];exact q,ZO h _ _ P⟩
 |darr D e d F =>
  obtain⟨v,xs,K,H,C,M,e1,c⟩:=l;have m:∀g∈F,E'.w.heap[g]?=E.w.heap[g]?:=λg a=>s rfl v g H a;exact⟨v,xs,K,h.ids _ _ H,Zgp C (λg a=>m g (by rw[e1];simp[a])),X4 _ _ _ (λd vs f B=>Yw h.S h.w e d vs f (λg a=>m g (by rw[e1];simp[B g a]))) M,e1,c⟩
 |spl D e d n F =>
  obtain⟨v,H,M,c⟩:=l;exact⟨v,h.ids _ _ H,Zoa h.S h.w (λg a=>s rfl v g H a) M,c⟩
 |hsp D e d i cells F =>
  obtain ⟨v,xs,X,V,N,f1,H,C,x,y,ex,J,p,z,A,L,e1,c⟩:=l;have m:∀ g∈F,E'.w.heap[g]?=E.w.heap[g]?:=λg a=>s rfl v g H a;exact ⟨v,xs,X,V,N,f1,h.ids _ _ H,Zgp C (λg a=>m g (by rw[e1];simp[a])),x,y,ex,J,p,
   X4 _ _ _ (λd vs f B=>Yw h.S h.w e d vs f (λg a=>m g (by rw[e1];simp[B g a]))) z,
   VN (λd vs=>Yo h.S h.w e.ty d vs) _ _ A,ZO h _ _ L,e1,c⟩
 |mpe k v d =>
  obtain⟨b,O,I,H,j,q⟩:=l;exact⟨b,O,I,h.ids _ _ H,by rw[s rfl _ b H rfl];exact j,ZbS (λd vs=>Yo h.S h.w k d vs) (λd vs=>Yo h.S h.w v d vs) _ _ q⟩
 |frm k v d =>
  obtain⟨u,H,j⟩:=l;exact⟨u,h.ids _ _ H,Yo h.S h.w (.mp k v) d [u] j⟩
 |hole D e d i cells F =>
  obtain ⟨v,xs,X,V,N,f1,f2,H,C,x,y,ex,J,p,z,A,L,e1,c⟩:=l;have m:∀ g∈F,E'.w.heap[g]?=E.w.heap[g]?:=λg a=>s rfl v g H a;exact ⟨v,xs,X,V,N,f1,f2,h.ids _ _ H,Zgp C (λg a=>m g (by rw[e1];simp[a])),x,y,ex,J,p,
   X4 _ _ _ (λd vs f B=>Yw h.S h.w e d vs f (λg a=>m g (by rw[e1];simp[B g a]))) z,
   X4 _ _ _ (λd vs f B=>Yw h.S h.w e d vs f (λg a=>m g (by rw[e1];simp[B g a]))) A,ZO h _ _ L,e1,c⟩
variable {row:Option Nat}
theorem ZdY (a:E.w.grownBy w' row) (s:∀b,E.S b->b<E.w.heap.size) (r:∀g,row=some g->¬E.S g) :
  E.le ⟨E.S,w',E.ids⟩ :=
 ⟨λ_ h=>h,λb H=>a.block b (s b H) (λe=>r b e.symm H),λ_ _ h=>h⟩
variable {B:Base}
theorem Keeps.grown (h:Keeps B w) (a:w.grownBy w' row) (E:∀g,row=some g->B.w.heap.size<=g\/B.io g):Keeps B w' :=
 ⟨a.os.trans h.os,a.tape.trans h.tape,a.output.trans h.output,Kg h.size a.size,λb H o =>
  (a.block b (UD H h.size) (λe=>by
   rcases E b e.symm with d|d
   ·omega
   ·exact o d)).trans (h.block b H o)⟩
variable {H:List Entry}
theorem Inv.grow (h:Inv B E H) (f:E.w.grownBy w' none):Inv B ⟨E.S,w',E.ids⟩ H:=by
 have j:=ZdY f h.Slt (λg e=>by simp at e);exact
  {keeps:=h.keeps.grown f (λg e=>by simp at e)
   Slt:=λb d=>UD (h.Slt b d) f.size
   Sold:=h.Sold
   len:=h.len
   pin:=h.pin
   ent:=λi e l=>ZdW j i e (λq v g k d=>f.block g (h.free i e v g l q k d).2.2 (by simp)) (h.ent i e l)
   free:=λi e v g l q k d=>let ⟨a,b,c⟩:=h.free i e v g l q k d;⟨a,b,UD c f.size⟩
   sep:=h.sep}
theorem Inv.Zur (h:Inv B E H) {p:Entry} (t:H[i]?=some p) (C:p.live=true) (r:E.ids[i]?=some v) (n:∀g,row=some g->Zhi p v g) (A:E.w.grownBy w' row) (e1:Entry) (o:e1.live=true->∀g,Zhi e1 v g->Zhi p v g) (I:Ztz ⟨E.S,w',E.ids⟩ i e1):Inv B ⟨E.S,w',E.ids⟩ (H.set i e1):=by
 have K:=ZdY A h.Slt (λg e=>(h.free i p v g t C r (n g e)).1);have J:i<H.length:=(Ub.1 t).1;have O:∀(j:Nat) (e:Entry),(H.set i e1)[j]?=some e->(j=i/\e=e1)\/(j≠i/\H[j]?=some e):=by
  intro j e q;by_cases D:j=i
  ·subst D;rw[UF J]at q;exact .inl ⟨rfl,by simpa using q.symm⟩
  ·rw[UH (by omega)]at q;exact .inr ⟨D,q⟩
 exact
  {keeps:=h.keeps.grown A (λg e=>(h.free i p v g t C r (n g e)).2.1)
   Slt:=λb Q=>UD (h.Slt b Q) A.size
   Sold:=h.Sold
   len:=by simp[h.len]
   pin:=h.pin
   ent:=λj e q=>by
    rcases O j e q with⟨rfl,rfl⟩|⟨y,m⟩
    ·exact I
    ·exact ZdW K j e (λf V g l d=>A.block g (h.free j e V g m f l d).2.2 (λP=>y (h.sep j i e p V v g m t f C l r d (n g P.symm)))) (h.ent j e m)
   free:=λj e V g q f l d=>by
    rcases O j e q with⟨rfl,rfl⟩|⟨y,m⟩
    ·have:=r.symm.trans l;simp at this;subst this
     obtain⟨a,b,c⟩:=h.free j p v g t C r (o f g d);exact⟨a,b,UD c A.size⟩
    ·obtain⟨a,b,c⟩:=h.free j e V g m f l d
     exact⟨a,b,UD c A.size⟩
   sep:=λj k G F V N g q M f x l z d s=>by
    rcases O j G q with⟨rfl,rfl⟩|⟨y,m⟩
    ·have:=r.symm.trans l;simp at this;subst this
     rcases O k F M with⟨rfl,rfl⟩|⟨L,u⟩
     ·rfl
     ·exact h.sep j k p F v N g t u C x r z (o f g d) s
    ·rcases O k F M with⟨rfl,rfl⟩|⟨L,u⟩
     ·have:=r.symm.trans z;simp at this;subst this
      exact h.sep j k G p V v g m t f C l r d (o x g s)
     ·exact h.sep j k G F V N g m u f x l z d s}
def Entry.thin:Entry->Bool
 | .darr _ _ _ _=>false
 | .hole _ _ _ _ _ _=>false
 | .spl _ _ _ _ _=>false
 | .hsp _ _ _ _ _ _=>false
 |_=>true
variable {e:Entry}
theorem ZkC (h:e.thin=true) (v:Value) (g:Nat):Zhi e v g<->Yv v=some g:=by
 cases e<;>first|exact KT|cases h
variable {n:Entry}
theorem Inv.write (h:Inv B E H) (l:H[i]?=some n) (q:n.live=true) (b:E.ids[i]?=some v) (a:E.w.grownBy w' (Yv v)) (e1:Entry) (I:Ztz ⟨E.S,w',E.ids⟩ i e1) (k:n.thin=true:=by rfl) (d:e1.thin=true:=by rfl):Inv B ⟨E.S,w',E.ids⟩ (H.set i e1) :=
 h.Zur l q b (λg a=>(ZkC k v g).2 a) a e1 (λ_ g a=>(ZkC k v g).2 ((ZkC d v g).1 a)) I
theorem Inv.drop (h:Inv B E H) (i:Nat):Inv B E (H.set i .gone):=by
 have d:∀(j:Nat) (e:Entry),(H.set i .gone)[j]?=some e->e=.gone\/H[j]?=some e:=by
  intro j e b;by_cases D:i=j
  ·subst D
   have t:i<H.length:=by have:=(Ub.1 b).1;simpa using this
   rw[UF t]at b;exact .inl (by simpa using b.symm)
  ·rw[UH D]at b;exact .inr b
 exact
  {keeps:=h.keeps,Slt:=h.Slt,Sold:=h.Sold,len:=by simp[h.len],pin:=h.pin
   ent:=λj e b=>by
    rcases d j e b with rfl|m
    ·trivial
    ·exact h.ent j e m
   free:=λj e v g b q o c=>by
    rcases d j e b with rfl|m
    ·simp[Entry.live]at q
    ·exact h.free j e v g m q o c
   sep:=λj k G F V N g b n f x l z a s=>by
    rcases d j G b with rfl|m
    ·simp[Entry.live]at f
    ·rcases d k F n with rfl|u
     ·simp[Entry.live]at x
     ·exact h.sep j k G F V N g m u f x l z a s}
theorem ZjA (E:Env) (v:Value):E.le ⟨E.S,E.w,E.ids++[v]⟩ :=
 ⟨λ_ h=>h,λ_ _=>rfl,λi u a=>by
  have:i<E.ids.length:=(Ub.1 a).1;simp[Uy this,a]⟩
theorem Inv.push (h:Inv B E H) (v:Value) (e:Entry) (M:Ztz ⟨E.S,E.w,E.ids++[v]⟩ H.length e)
  (C:e.live=true->∀ g,Zhi e v g->¬E.S g/\(B.w.heap.size<=g\/B.io g)/\g<E.w.heap.size/\
   ∀ (j:Nat) (G:Entry) (V:Value),H[j]?=some G->G.live=true->E.ids[j]?=some V->¬Zhi G V g) :
  Inv B ⟨E.S,E.w,E.ids++[v]⟩ (H++[e]):=by
 have A:=ZjA E v;have O:∀(j:Nat) (G:Entry),(H++[e])[j]?=some G->(j=H.length/\G=e)\/(j<H.length/\H[j]?=some G):=by
  intro j G d;by_cases t:j<H.length
  ·rw[Uy t]at d;exact .inr ⟨t,d⟩
  ·have L:j<(H++[e]).length:=(Ub.1 d).1
   have:j=H.length:=by simp at L;omega
   subst this;simp at d;exact .inl ⟨rfl,d.symm⟩
 have o:∀(j:Nat) (u:Value),j<H.length->(E.ids++[v])[j]?=some u->E.ids[j]?=some u:=by
  intro j u t y;rwa [Uy (by rw[h.len];exact t)]at y
 have n:∀(u:Value),(E.ids++[v])[H.length]?=some u->u=v:=by
  intro u y;rw[<-h.len]at y;simpa using y.symm
 exact
  {keeps:=h.keeps,Slt:=h.Slt,Sold:=h.Sold,len:=by simp[h.len],pin:=λi u y=>A.ids i u (h.pin i u y)
   ent:=λj G d=>by
    rcases O j G d with⟨rfl,rfl⟩|⟨_,m⟩
    ·exact M
    ·exact ZdW A j G (λ_ _ _ _ _=>rfl) (h.ent j G m)
   free:=λj G V g d J K D=>by
    rcases O j G d with⟨rfl,rfl⟩|⟨t,m⟩
    ·have:=n _ K;subst this
     obtain⟨a,b,c,_⟩:=C J g D;exact⟨a,b,c⟩
    ·exact h.free j G V g m J (o _ _ t K) D
   sep:=λj k G F V N g d I q x r z l s=>by
    rcases O j G d with⟨rfl,rfl⟩|⟨t,m⟩
    ·rcases O k F I with⟨rfl,rfl⟩|⟨f,p⟩
     ·rfl
     ·have:=n _ r;subst this
      exact absurd s ((C q g l).2.2.2 k F N p x (o _ _ f z))
    ·rcases O k F I with⟨rfl,rfl⟩|⟨f,p⟩
     ·have:=n _ z;subst this
      exact absurd l ((C x g s).2.2.2 j G V m q (o _ _ t r))
     ·exact h.sep j k G F V N g m p q x (o _ _ t r) (o _ _ f z) l s}
theorem Inv.alloc (h:Inv B E H) (o:Obj) (v:Value) (e:Entry) (f:Yv v=some E.w.heap.size)
  (a:Ztz ⟨E.S,E.w.alloc o,E.ids++[v]⟩ H.length e) (r:e.thin=true:=by rfl):Inv B ⟨E.S,E.w.alloc o,E.ids++[v]⟩ (H++[e]):=by
 have c:E.w.grownBy (E.w.alloc o) none:=World.grownBy_alloc E.w o none;refine(h.grow c).push v e a (λ_ g b=>?_);have b:=(ZkC r v g).1 b;rw[f]at b;simp at b;subst b;refine⟨λs=>KX _ (h.Slt _ s),.inl h.keeps.size,by simp,λj G V d q l b=>?_⟩;exact KX _ (h.free j G V _ d q l b).2.2
theorem ZpS (h:Inv B E H) (o:Obj) (v:Value):E.le ⟨E.S,E.w.alloc o,E.ids++[v]⟩ :=
 (ZdY (World.grownBy_alloc E.w o none) h.Slt (λg e=>by simp at e)).trans (ZjA _ v)
theorem ZvB {a:TypeId} (f:E.w.Jr 0 a t.size v d.length xs) (H:QH (rep E.S E.w t) d xs)
  (S':Nat->Prop) (s:∀b,E.S b->S' b) (i:∀g,Yv v=some g->S' g):rep S' E.w (.sl t) d [v]:=by
 have h:=VN (R':=rep S' E.w t) (λd vs=>Yo s (λ_ _=>rfl) t d vs) _ _ H;rcases f.2 with⟨rfl,W⟩|⟨g,c,cur,o,rfl,_,hh,q,_⟩
 ·exact⟨none,0,by rw[W],by omega,λ_=>rfl,.inl (UC W)⟩
 ·exact⟨_,c,rfl,q,λe=>by simp at e,.inr ⟨_,xs,rfl,rfl,i g rfl,f.Zgh rfl,h⟩⟩
theorem Inv.ZnE (h:Inv B E H) {q:Entry} (s:H[i]?=some q) (z:q.live=true) (C:E.ids[i]?=some v) (e1:Entry) (d:e1.live=false)
  (I:Ztz ⟨λb=>E.S b\/Zhi q v b,E.w,E.ids⟩ i e1):E.le ⟨λb=>E.S b\/Zhi q v b,E.w,E.ids⟩/\Inv B ⟨λb=>E.S b\/Zhi q v b,E.w,E.ids⟩ (H.set i e1):=by
 have J:i<H.length:=(Ub.1 s).1;have r:E.le ⟨λb=>E.S b\/Zhi q v b,E.w,E.ids⟩:=⟨λ_ h=>.inl h,λ_ _=>rfl,λ_ _ h=>h⟩;have O:∀(j:Nat) (e:Entry),(H.set i e1)[j]?=some e->(j=i/\e=e1)\/(j≠i/\H[j]?=some e):=by
  intro j e l;by_cases D:j=i
  ·subst D;rw[UF J]at l;exact .inl ⟨rfl,by simpa using l.symm⟩
  ·rw[UH (by omega)]at l;exact .inr ⟨D,l⟩
 refine⟨r,?_⟩;exact
  {keeps:=h.keeps
   Slt:=λb p=>p.elim (h.Slt b) (λe=>(h.free i _ v b s z C e).2.2)
   Sold:=λb p A=>by
    rcases p with p|p
    ·exact h.Sold b p A
    ·rcases(h.free i _ v b s z C p).2.1 with hh|hh
     ·omega
     ·exact .inr hh
   len:=by simp[h.len]
   pin:=h.pin
   ent:=λj e l=>by
    rcases O j e l with⟨rfl,rfl⟩|⟨y,m⟩
    ·exact I
    ·exact ZdW r j e (λ_ _ _ _ _=>rfl) (h.ent j e m)
   free:=λj e V g l f o n=>by
    rcases O j e l with⟨rfl,rfl⟩|⟨y,m⟩
    ·rw[d]at f;cases f
    ·obtain⟨a,b,c⟩:=h.free j e V g m f o n
     exact⟨λL=>L.elim a (λP=>y (h.sep j i e _ V v g m s f z o C n P)),b,c⟩
   sep:=λj k G K V Q g l M f x o F n t=>by
    rcases O j G l with⟨rfl,rfl⟩|⟨y,m⟩
    ·rw[d]at f;cases f
    ·rcases O k K M with⟨rfl,rfl⟩|⟨N,u⟩
     ·rw[d]at x;cases x
     ·exact h.sep j k G K V Q g m u f x o F n t}
theorem Inv.freeze (h:Inv B E H) {c:TypeId} (l:H[i]?=some (.arr c t d)) (a:E.ids[i]?=some v) :
  ∃S',E.le ⟨S',E.w,E.ids⟩/\Inv B ⟨S',E.w,E.ids⟩ (H.set i (.frz t d))/\rep S' E.w (.sl t) d [v]/\(∀b,S' b->E.S b\/Yv v=some b):=by
 obtain⟨v',xs,f,j,k⟩:=h.ent i _ l;have:=f.symm.trans a;simp at this;subst this;have r:rep (λb=>E.S b\/Yv v'=some b) E.w (.sl t) d [v']:=ZvB j k _ (λ_ h=>.inl h) (λg o=>.inr o);obtain⟨e,m⟩:=h.ZnE l rfl a (.frz t d) rfl ⟨v',a,r⟩;exact⟨_,e,m,r,λb n=>n⟩
variable {f:List Nat}
theorem Inv.ZAd (h:Inv B E H) {t:TypeId} {e:Dp} {d:List e.ty.den} (l:H[i]?=some (.darr t e d f)) (c:E.ids[i]?=some v) :
  ∃S',E.le ⟨S',E.w,E.ids⟩/\Inv B ⟨S',E.w,E.ids⟩ (H.set i (.frz e.ty d))/\rep S' E.w (.sl e.ty) d [v]/\(∀b,S' b->E.S b\/b∈f):=by
 obtain⟨v',xs,s,j,k,m,e1,_⟩:=h.ent i _ l;have:=j.symm.trans c;simp at this;subst this;have r:rep (λb=>E.S b\/b∈f) E.w (.sl e.ty) d [v'] :=
  Zgc (S:=E.S) (λ_ h=>.inl h) (.ol t e) d [v'] f (λg p=>.inr p) ⟨v',xs,s,rfl,k,m,e1⟩
 obtain⟨a,n⟩:=h.ZnE l rfl c (.frz e.ty d) rfl ⟨v',c,r⟩;exact⟨_,a,n,r,λb o=>o⟩
theorem Inv.ZAe (h:Inv B E H) {k:Ty} {d:List (k.den×t.den)} (l:H[i]?=some (.mpe k t d)) (a:E.ids[i]?=some v) :
  ∃S',E.le ⟨S',E.w,E.ids⟩/\Inv B ⟨S',E.w,E.ids⟩ (H.set i (.frm k t d))/\rep S' E.w (.mp k t) d [v]/\(∀b,S' b->E.S b\/Yv v=some b):=by
 obtain⟨b,s,C,c,f,j⟩:=h.ent i _ l;have:=c.symm.trans a;simp at this;subst this;have r:rep (λg=>E.S g\/Yv (.map (some b))=some g) E.w (.mp k t) d [.map (some b)] :=
  .inr ⟨b,s,C,rfl,.inr rfl,f,ZbS (λd vs=>Yo (λ_ h=>.inl h) (λ_ _=>rfl) k d vs) (λd vs=>Yo (λ_ h=>.inl h) (λ_ _=>rfl) t d vs) _ _ j⟩
 obtain⟨e,m⟩:=h.ZnE l rfl a (.frm k t d) rfl ⟨_,a,r⟩;exact⟨_,e,m,r,λb n=>n⟩
structure Loose (B:Base) (E:Env) (H:List Entry) (gs:List Nat):Prop where
 nodup:gs.Nodup
 free:∀g∈gs,¬E.S g/\(B.w.heap.size<=g\/B.io g)/\g<E.w.heap.size
 apart:∀g∈gs,∀(j:Nat) (ej:Entry) (vj:Value),H[j]?=some ej->ej.live=true->E.ids[j]?=some vj->¬Zhi ej vj g
variable {gs:List Nat}
theorem Loose.perm {G:List Nat} (h:Loose B E H gs) (p:gs.Perm G):Loose B E H G :=
 ⟨p.nodup_iff.1 h.nodup,λg a=>h.free g (p.mem_iff.2 a),λg a=>h.apart g (p.mem_iff.2 a)⟩
theorem Loose.right (h:Loose B E H (f++gs)):Loose B E H gs :=
 ⟨(UW.1 h.nodup).2.1,λg a=>h.free g (by simp[a]),λg a=>h.apart g (by simp[a])⟩
theorem Loose.push (h:Loose B E H (f++gs)) (p:Inv B E H) (v:Value) (e:Entry) (n:e.live=true->∀g,Zhi e v g->g∈f) (u:Ztz ⟨E.S,E.w,E.ids++[v]⟩ H.length e) :
  Inv B ⟨E.S,E.w,E.ids++[v]⟩ (H++[e])/\Loose B ⟨E.S,E.w,E.ids++[v]⟩ (H++[e]) gs:=by
 refine⟨p.push v e u (λq g k=>?_),?_⟩
 ·have Q:g∈f++gs:=by simp[n q g k]
  obtain⟨a,b,c⟩:=h.free g Q;exact⟨a,b,c,λj G V d q o=>h.apart g Q j G V d q o⟩
 ·refine⟨(UW.1 h.nodup).2.1,λg k=>h.free g (by simp[k]),λg k j G V d q o r=>?_⟩
  by_cases t:j<H.length
  ·rw[Uy t]at d
   have i:E.ids[j]?=some V:=by
    have l:j<E.ids.length:=by rw[p.len];exact t
    rwa [Uy l]at o
   exact h.apart g (by simp[k]) j G V d q i r
  ·have s:j<(H++[e]).length:=(Ub.1 d).1
   have:j=H.length:=by simp at s;omega
   subst this;simp at d;subst d;have i:V=v:=by
    have m:(E.ids++[v])[H.length]?=some V:=o;rw[<-p.len]at m;simpa using m.symm
   subst i;exact(UW.1 h.nodup).2.2 g (n q g r) g k rfl
theorem Loose.take (h:Loose B E H gs) (s:Inv B E H) (k:H[i]?=some e) (q:e.live=true) (r:E.ids[i]?=some v)
  (p:f.Nodup) (n:∀g∈f,Zhi e v g):Loose B E (H.set i .gone) (f++gs):=by
 have t:i<H.length:=(Ub.1 k).1;have d:∀(j:Nat) (G:Entry),(H.set i .gone)[j]?=some G->G.live=true->j≠i/\H[j]?=some G:=by
  intro j G b q;by_cases D:i=j
  ·subst D;rw[UF t]at b;simp at b;subst b;simp[Entry.live]at q
  ·rw[UH D]at b;exact⟨Ne.symm D,b⟩
 refine⟨UW.2 ⟨p,h.nodup,?_⟩,λg a=>?_,λg a j G V b c l u=>?_⟩
 ·rintro g a w o rfl
  exact h.apart g o i e v k q r (n g a)
 ·rcases Uu.1 a with a|a
  ·exact s.free i e v g k q r (n g a)
  ·exact h.free g a
 ·obtain⟨y,m⟩:=d j G b c
  rcases Uu.1 a with a|a
  ·exact y (s.sep j i G e V v g m k c q l r u (n g a))
  ·exact h.apart g a j G V m c l u
theorem Loose.le (h:Loose B E H gs):Loose B E H ([]++gs):=h
theorem Loose.put (h:Loose B E H (f++gs)) (a:Inv B E H) {I:Nat} (A:I<H.length) (y:E.ids[I]?=some v) (e:Entry) (n:e.live=true->∀g,Zhi e v g->g∈f) (J:Ztz E I e) :
  Inv B E (H.set I e)/\Loose B E (H.set I e) gs:=by
 have d:∀(j:Nat) (e1:Entry),(H.set I e)[j]?=some e1->(j=I/\e1=e)\/(j≠I/\H[j]?=some e1):=by
  intro j e1 b;by_cases D:I=j
  ·subst D;rw[UF A]at b;exact .inl ⟨rfl,by simpa using b.symm⟩
  ·rw[UH D]at b;exact .inr ⟨Ne.symm D,b⟩
 refine⟨?_,?_⟩
 ·exact
   {keeps:=a.keeps,Slt:=a.Slt,Sold:=a.Sold,len:=by simp[a.len],pin:=a.pin
    ent:=λj e1 b=>by
     rcases d j e1 b with⟨rfl,rfl⟩|⟨_,m⟩
     ·exact J
     ·exact a.ent j e1 m
    free:=λj e1 u g b t w r=>by
     rcases d j e1 b with⟨rfl,rfl⟩|⟨_,m⟩
     ·have:=y.symm.trans w;simp at this;subst this
      exact h.free g (by simp[n t g r])
     ·exact a.free j e1 u g m t w r
    sep:=λi j z G V F g K b l o p q c k=>by
     rcases d i z K with⟨rfl,rfl⟩|⟨L,s⟩
     ·have:=y.symm.trans p;simp at this;subst this
      rcases d j G b with⟨rfl,rfl⟩|⟨C,m⟩
      ·rfl
      ·exact absurd k (h.apart g (by simp[n l g c]) j G F m o q)
     ·rcases d j G b with⟨rfl,rfl⟩|⟨C,m⟩
      ·have:=y.symm.trans q;simp at this;subst this
       exact absurd c (h.apart g (by simp[n o g k]) i z V s l p)
      ·exact a.sep i j z G V F g s m l o p q c k}
 ·refine⟨(UW.1 h.nodup).2.1,λg x=>h.free g (by simp[x]),λg x j e1 u b t w r=>?_⟩
  rcases d j e1 b with⟨rfl,rfl⟩|⟨_,m⟩
  ·have:=y.symm.trans w;simp at this;subst this
   exact(UW.1 h.nodup).2.2 g (n t g r) g x rfl
  ·exact h.apart g (by simp[x]) j e1 u m t w r
theorem Loose.drop (h:Loose B E H gs) (i:Nat):Loose B E (H.set i .gone) gs:=by
 refine⟨h.nodup,h.free,λg c j G V b q v a=>?_⟩;by_cases D:i=j
 ·subst D
  have t:i<H.length:=by have:=(Ub.1 b).1;simpa using this
  rw[UF t]at b;simp at b;subst b;cases q
 ·rw[UH D]at b;exact h.apart g c j G V b q v a
variable {H':List Entry}
theorem Inv.part (h:Inv B E H) (l:H'.length=H.length) (p:∀(j:Nat) (e:Entry),H'[j]?=some e->e=.gone\/H[j]?=some e):Inv B E H' :=
 {keeps:=h.keeps,Slt:=h.Slt,Sold:=h.Sold,len:=by rw[l];exact h.len,pin:=h.pin
  ent:=λj e b=>by
   rcases p j e b with rfl|m
   ·trivial
   ·exact h.ent j e m
  free:=λj e v g b q t o=>by
   rcases p j e b with rfl|m
   ·cases q
   ·exact h.free j e v g m q t o
  sep:=λi j z G V u g r b a f k n c d=>by
   rcases p i z r with rfl|s
   ·cases a
   ·rcases p j G b with rfl|m
    ·cases f
    ·exact h.sep i j z G V u g s m a f k n c d}
structure Frz (E:Env) (H:List Entry) (E':Env) (H':List Entry):Prop where
 w:E'.w=E.w
 ids:E'.ids=E.ids
 len:H'.length=H.length
 le:E.le E'
 S:∀b,E'.S b->E.S b\/∃(j:Nat) (e:Entry) (v:Value),H[j]?=some e/\e.live=true/\E.ids[j]?=some v/\Zhi e v b
 ent:∀(j:Nat) (e':Entry) (v:Value) (g:Nat),H'[j]?=some e'->e'.live=true->E.ids[j]?=some v->Zhi e' v g->∃e,H[j]?=some e/\e.live=true/\Zhi e v g
 box:∀(i:Nat) (c:List SV),H'[i]?=some (.box c)->H[i]?=some (.box c)
 gone:∀(i:Nat),H[i]?=some .gone->H'[i]?=some .gone
 same:∀(j:Nat) (e':Entry),H'[j]?=some e'->e'.live=true->H[j]?=some e'
theorem Frz.refl (E:Env) (H:List Entry):Frz E H E H :=
 ⟨rfl,rfl,rfl,Env.le.refl E,λb h=>.inl h,λj e v g h q _ a=>⟨e,h,q,a⟩,λ_ _ h=>h,λ_ h=>h,λ_ _ h _=>h⟩
variable {E1:Env} {H1:List Entry} {E2:Env} {H2:List Entry}
theorem Frz.trans (h:Frz E H E1 H1) (k:Frz E1 H1 E2 H2):Frz E H E2 H2 where
 w:=k.w.trans h.w
 ids:=k.ids.trans h.ids
 len:=k.len.trans h.len
 le:=h.le.trans k.le
 S:=λb a=>by
  rcases k.S b a with a|⟨j,e,v,f,l,d,t⟩
  ·exact h.S b a
  ·obtain⟨p,G,r,s⟩:=h.ent j e v b f l (by rw[<-h.ids];exact d) t
   exact .inr ⟨j,p,v,G,r,by rw[<-h.ids];exact d,s⟩
 ent:=λj e v g n q o a=>by
  obtain⟨e1,f,l,d⟩:=k.ent j e v g n q (by rw[h.ids];exact o) a;exact h.ent j e1 v g f l o d
 box:=λi c m=>h.box i c (k.box i c m)
 gone:=λi m=>k.gone i (h.gone i m)
 same:=λj e n q=>h.same j e (k.same j e n q) q
theorem Frz.one {e1:Entry} (l:H[i]?=some n) (q:n.live=true) (r:E.ids[i]?=some v) (d:e1.live=false)
  (p:E.le ⟨S',E.w,E.ids⟩) (s:∀b,S' b->E.S b\/Zhi n v b):Frz E H ⟨S',E.w,E.ids⟩ (H.set i e1):=by
 have t:=(Ub.1 l).1;have o:∀(j:Nat) (e:Entry),(H.set i e1)[j]?=some e->e=e1\/H[j]?=some e:=by
  intro j e a;by_cases D:i=j
  ·subst D;rw[UF t]at a;exact .inl (by simpa using a.symm)
  ·rw[UH D]at a;exact .inr a
 exact
  {w:=rfl,ids:=rfl,len:=by simp,le:=p
   S:=λb k=>(s b k).imp_right λh=>⟨i,n,v,l,q,r,h⟩
   ent:=λj e v g a q _ k=>by
    rcases o j e a with rfl|m
    ·rw[d]at q;cases q
    ·exact⟨e,m,q,k⟩
   box:=λj c a=>by
    rcases o j _ a with h|m
    ·rw[<-h]at d;cases d
    ·exact m
   gone:=λj a=>by
    by_cases D:i=j
    ·subst D;rw[l]at a;simp at a;subst a;cases q
    ·rw[UH D];exact a
   same:=λj e a f=>by
    rcases o j e a with rfl|m
    ·rw[d]at f;cases f
    ·exact m}
theorem Loose.frz (h:Loose B E H gs) (k:Frz E H E' H'):Loose B E' H' gs :=
  ⟨h.nodup,λg d=>by
    obtain⟨a,b,c⟩:=h.free g d;refine⟨λq=>?_,b,by rw[k.w];exact c⟩;rcases k.S g q with q|⟨j,e,v,f,i,l,o⟩
    · exact a q
    · exact h.apart g d j e v f i l o,
   λg d j e v r s m p=>by
    obtain ⟨n,f,i,l⟩:=k.ent j e v g r s (by rw[<-k.ids];exact m) p;exact h.apart g d j n v f i (by rw[<-k.ids];exact m) l⟩
def Zju (E:Env) (H H':List Entry) (f:List Nat):Prop:=∀g∈f,∃(i:Nat) (e:Entry) (v:Value),H[i]?=some e/\e.live=true/\E.ids[i]?=some v/\Zhi e v g/\H'[i]?=some .gone
theorem Zju.nil (E:Env) (H H':List Entry):Zju E H H' []:=λg a=>by simp at a
theorem Zju.append (h:Zju E H H' f) (a:Zju E H H' F):Zju E H H' (f++F):=λg b=>(Uu.1 b).elim (h g) (a g)
theorem Zju.later (h:Zju E H H1 f) (k:Frz E1 H1 E2 H2):Zju E H H2 f:=λg l=>by
 obtain⟨i,e,v,d,a,b,c,j⟩:=h g l;exact⟨i,e,v,d,a,b,c,k.gone i j⟩
theorem Zju.after (k:Frz E H E1 H1) (h:Zju E1 H1 H2 f):Zju E H H2 f:=λg m=>by
 obtain⟨i,e,v,d,c,a,j,l⟩:=h g m;obtain⟨n,G,b,s⟩:=k.ent i e v g d c (by rw[<-k.ids];exact a) j;exact⟨i,n,v,G,b,by rw[<-k.ids];exact a,s,l⟩
theorem Zju.sub (h:Zju E H H' f) (q:∀g∈F,g∈f):Zju E H H' F:=λg a=>h g (q g a)
def ZmV:List Entry->List Entry->List Entry
 |[],_=>[]
 |e::r,[]=>e::r
 |e::r,e1::r1=>match e1 with
  | .gone=>.gone::ZmV r r1
  |_=>e::ZmV r r1
theorem Zmv:∀(H H1:List Entry),(ZmV H H1).length=H.length
 |[],_=>rfl
 |_::_,[]=>rfl
 |e::r,e1::r1=>by
  unfold ZmV;split<;>simp[Zmv r r1]
theorem ZkZ:∀(H H1:List Entry) (j:Nat) (e:Entry),(ZmV H H1)[j]?=some e->e=.gone\/(H[j]?=some e/\H1[j]?≠some .gone)
 |[],_,j,e,h=>by simp[ZmV]at h
 |e0::r,[],j,e,h=>by
  simp only[ZmV]at h;exact .inr ⟨h,by simp⟩
 |e0::r,e1::r1,j,e,h=>by
  unfold ZmV at h;split at h
  ·cases j with
   |zero=>simp at h;exact .inl h.symm
   |succ j=>simpa using ZkZ r r1 j e (by simpa using h)
  ·rename_i y
   cases j with
   |zero =>
    simp at h;subst h;refine .inr ⟨rfl,λl=>?_⟩;simp at l;exact y l
   |succ j=>simpa using ZkZ r r1 j e (by simpa using h)
theorem Zs0 (l:Inv B E H) (k:Frz E H E1 H1) (n:Loose B E1 H1 f) (z:Zju E H H1 f):Inv B E (ZmV H H1)/\Loose B E (ZmV H H1) f:=by
 refine⟨l.part (Zmv H H1) (λj e d=>(ZkZ H H1 j e d).imp_right And.left),n.nodup,λg h=>?_,λg h j e v d q D A=>?_⟩
 ·obtain⟨a,b,c⟩:=n.free g h
  exact⟨λC=>a (k.le.S g C),b,by rw[<-k.w];exact c⟩
 ·rcases ZkZ H H1 j e d with rfl|⟨m,y⟩
  ·cases q
  ·obtain⟨i,o,u,p,r,s,t,x⟩:=z g h
   have:=l.sep j i e o v u g m p q r D s A t;subst this;exact y x
inductive TK
 |int (k:IntKind)
 |bool
 |str
 |sl
 |arr (n:Nat)
 |st
 |ptr
 |mp (k e:TypeId)
 |oth
def Zvq:TypeDesc->TK
 | .int k=>.int k
 | .bool=>.bool
 | .string=>.str
 | .slice _=>.sl
 | .array n _=>.arr n
 | .struct _=>.st
 | .pointer _=>.ptr
 | .map k e=>.mp k e
 |_=>.oth
def TK.agg:TK->Bool
 | .st=>true
 | .arr _=>true
 |_=>false
def TK.ZDn:TK->Bool
 | .st=>true
 |_=>false
inductive EqD
 |nil
 |int (k:IntKind) (o:Nat) (r:EqD)
 |bool (o:Nat) (r:EqD)
 |str (o:Nat) (r:EqD)
 |st (o sz:Nat) (fs r:EqD)
def ZtO (k:IntKind):Option TypeDesc->Bool
 |some (.int K)=>decide (K=k)
 |_=>false
def Zqh:Option TypeDesc->Bool
 |some .bool=>true
 |_=>false
def ZtP:Option TypeDesc->Bool
 |some .string=>true
 |_=>false
def EqD.fits (P:Program):EqD->List Field->Bool
 | .nil,l=>l.isEmpty
 | .int k o r,l=>match l with
  |[]=>false
  |f::l=>f.name != "_" && f.offset==o&&ZtO k (P.underlying f.type)&&r.fits P l
 | .bool o r,l=>match l with
  |[]=>false
  |f::l=>f.name != "_" && f.offset==o&&Zqh (P.underlying f.type)&&r.fits P l
 | .str o r,l=>match l with
  |[]=>false
  |f::l=>f.name != "_" && f.offset==o&&ZtP (P.underlying f.type)&&r.fits P l
 | .st o z s r,l=>match l with
  |[]=>false
  | f::l=>f.name != "_" && f.offset == o&&(match P.underlying f.type with
    |some (.struct gs)=>!P.stoodInHeld f.type&&s.fits P gs.toList
    | _=>false)&&(P.info? f.type).map (·.size) == some z&&r.fits P l
def EqD.isNil:EqD->Bool
 | .nil=>true
 |_=>false
structure TI where
 size:Nat
 bytes:Nat
 zero:Value
 kind:TK
 flds:List (Nat×Nat×Bool):=[]
 elem:TypeId:=0
 esize:Nat:=0
 ebytes:Nat:=0
 ezero:Value:=undef
 eagg:Bool:=false
 ty:Ty:=.unit
 ety:Ty:=.unit
 eqd:EqD:=.nil
 edp:Option Dp:=none
 cut:Bool:=false
def ZhF:TypeDesc->Bool
 | .struct _=>true
 | .array _ _=>true
 |_=>false
structure Zdi (P:Program) (T:TypeId) (ti:TI):Prop where
 info:(P.info? T).map (λi=>(i.size,i.bytes,i.zero))=some (ti.size,ti.bytes,some ti.zero)
 kind:(P.underlying T).map Zvq=some ti.kind
 flds:(match P.underlying T with
  |some (.struct fs)=>fs.toList.map (λf=>(f.offset,(P.info? f.type).map (·.size),(P.underlying f.type).map ZhF))
  | _=>[])=ti.flds.map (λx=>(x.1,some x.2.1,some x.2.2))
 elem:(match P.underlying T with
  |some (.slice e)=>some (e,(P.info? e).map (λi=>(i.size,i.bytes,i.zero)),((P.underlying e).map ZhF))
  |some (.array _ e)=>some (e,(P.info? e).map (λi=>(i.size,i.bytes,i.zero)),((P.underlying e).map ZhF))
  |_=>none)=(match ti.kind with
  | .sl=>some (ti.elem,some (ti.esize,ti.ebytes,some ti.ezero),some ti.eagg)
  | .arr _=>some (ti.elem,some (ti.esize,ti.ebytes,some ti.ezero),some ti.eagg)
  | _=>none)
 eqd:(ti.eqd.isNil||match P.underlying T with
  |some (.struct fs)=>!P.stoodInHeld T&&ti.eqd.fits P fs.toList&&!P.eqGuardType P.depth T
  | _=>false)=true
abbrev Tab:=List (Nat×TI)
def Tab.ok (Δ:Tab) (P:Program):Prop:=∀x∈Δ,Zdi P x.1 x.2
def Zc5:Tab->Nat->(TI->Prop)->Prop
 |[],_,_=>False
 |(n,t)::r,T,K=>if n=T then K t else Zc5 r T K
theorem Xw {P:Program}:∀(Δ:Tab),Δ.ok P->∀{T:Nat} {K:TI->Prop},Zc5 Δ T K->∃t,Zdi P T t/\K t
 |[],_,_,_,h=>h.elim
 |(n,t)::r,hΔ,T,K,h=>by
  unfold Zc5 at h;split at h
  ·rename_i e;subst e;exact⟨t,hΔ (n,t) (by simp),h⟩
  ·exact Xw r (λx Z=>hΔ x (by simp[Z])) h
def ZmN:List SV->Nat->(SV->Prop)->Prop
 |[],_,_=>False
 |s::_,0,K=>K s
 |_::r,n+1,K=>ZmN r n K
theorem ZbU {E:Env}:∀(cs:List SV) (vs:List Value),Yf E cs vs->∀{n:Nat} {K:SV->Prop},ZmN cs n K->∃s v,vs[n]?=some v/\den E s v/\K s/\cs[n]?=some s
 |[],_,_,_,_,h=>h.elim
 |c::cs,v::vs,L,0,K,h=>by simp only[Yf]at L;exact⟨c,v,rfl,L.1,h,rfl⟩
 |c::cs,v::vs,L,n+1,K,h=>by simp only[Yf]at L;simpa using ZbU cs vs L.2 (n:=n) h
 |_::_,[],L,_,_,_=>by simp[Yf]at L
def Zu9:List SV->Nat->SV->(List SV->Prop)->Prop
 |[],_,_,K=>K []
 |_::r,0,s,K=>K (s::r)
 |x::r,n+1,s,K=>Zu9 r n s λR=>K (x::R)
theorem ZeW:∀(cs:List SV) (n:Nat) (s:SV) (K:List SV->Prop),Zu9 cs n s K=K (cs.set n s)
 |[],_,_,_=>rfl
 |_::_,0,_,_=>rfl
 |x::r,n+1,s,K=>by simp[Zu9,ZeW r n s]
def ZpT {α:Type}:List α->List α->(List α->Prop)->Prop
 |[],l,K=>K l
 |x::r,l,K=>ZpT r l λR=>K (x::R)
theorem ZaQ {α:Type}:∀(cs l:List α) (K:List α->Prop),ZpT cs l K=K (cs++l)
 |[],_,_=>rfl
 |x::r,l,K=>by simp[ZpT,ZaQ r l]
def ZiC {α:Type}:List α->Nat->(List α->Prop)->Prop
 |l,0,K=>K l
 |[],_+1,K=>K []
 |_::r,n+1,K=>ZiC r n K
theorem Zcp {α:Type}:∀(cs:List α) (n:Nat) (K:List α->Prop),ZiC cs n K=K (cs.drop n)
 |l,0,_=>by cases l<;>rfl
 |[],_+1,_=>rfl
 |_::r,n+1,K=>by simp[ZiC,Zcp r n]
def Zo4 {α:Type}:List α->Nat->(List α->Prop)->Prop
 |_,0,K=>K []
 |[],_+1,K=>K []
 |x::r,n+1,K=>Zo4 r n λR=>K (x::R)
theorem Zic {α:Type}:∀(cs:List α) (n:Nat) (K:List α->Prop),Zo4 cs n K=K (cs.take n)
 |l,0,_=>by cases l<;>rfl
 |[],_+1,_=>rfl
 |x::r,n+1,K=>by simp[Zo4,Zic r n]
def Zsg {α:Type}:List α->Nat->(Nat->Prop)->Prop
 |[],n,K=>K n
 |_::r,n,K=>Zsg r (n+1) K
theorem Zb7 {α:Type}:∀(l:List α) (n:Nat) (K:Nat->Prop),Zsg l n K=K (n+l.length)
 |[],_,_=>rfl
 |_::r,n,K=>by simp[Zsg,Zb7 r (n+1),Nat.add_assoc,Nat.add_comm 1]
def ZgN:List Entry->Nat->(Entry->Prop)->Prop
 |[],_,_=>False
 |s::_,0,K=>K s
 |_::r,n+1,K=>ZgN r n K
theorem Y0:∀(H:List Entry) {n:Nat} {K:Entry->Prop},ZgN H n K->∃e,H[n]?=some e/\K e
 |[],_,_,h=>h.elim
 |e::_,0,K,h=>⟨e,rfl,h⟩
 |_::r,n+1,K,h=>by simpa using Y0 r (n:=n) h
def ZhD:List Entry->Nat->Entry->(List Entry->Prop)->Prop
 |[],_,_,K=>K []
 |_::r,0,s,K=>K (s::r)
 |x::r,n+1,s,K=>ZhD r n s λR=>K (x::R)
theorem Xu:∀(cs:List Entry) (n:Nat) (s:Entry) (K:List Entry->Prop),ZhD cs n s K=K (cs.set n s)
 |[],_,_,_=>rfl
 |_::_,0,_,_=>rfl
 |x::r,n+1,s,K=>by simp[ZhD,Xu r n s]
def Vv:(t:Ty)->t.den->(List SV->Prop)->Prop
 | .int k,n,K=>K [.int k n]
 | .bool,b,K=>K [.bool b]
 | .str,s,K=>K [.str s]
 | .sl t,l,K=>K [.sl t l]
 | .unit,_,K=>K []
 | .ptr t,d,K=>Vv t d λcs=>K [.fptr cs]
 | .fn f t,d,K=>Vv t d λcs=>K [.fn f cs]
 | .nptr t,d,K=>K [.nptr t d]
 | .mp k v,d,K=>K [.mp k v d]
 | .pair _ _,d,K=>Zx d λx y=>Vv _ x λc1=>Vv _ y λc2=>ZpT c1 c2 K
theorem Qg:∀(t:Ty) (d:t.den) (K:List SV->Prop),Vv t d K=K (ZfK t d)
 | .int _,_,_=>rfl
 | .bool,_,_=>rfl
 | .str,_,_=>rfl
 | .sl _,_,_=>rfl
 | .unit,_,_=>rfl
 | .ptr t,d,K=>by simp[Vv,ZfK,Qg t]
 | .fn f t,d,K=>by simp[Vv,ZfK,Qg t]
 | .nptr t,d,K=>rfl
 | .mp k v,d,K=>rfl
 | .pair a b,d,K=>by simp[Vv,ZfK,V3,Qg a,Qg b,ZaQ]
def Zjj {α:Type} (d:List α) (i:Int) (K:α->Prop):Prop:=0<=i/\i<(d.length:Int)/\∀x,d[i.toNat]?=some x->K x
def Zkx:Value->Option SV
 | .int k n=>some (.int k n)
 | .bool b=>some (.blit b)
 | .string s=>some (.str s.data.toList)
 | .slice none 0 0=>some .nsl
 | .pointer none=>some .nilp
 | .map none=>some (.mp .unit .unit [])
 |_=>none
theorem Zmm (E:Env) (v:Value) (s:SV) (h:Zkx v=some s):den E s v:=by
 unfold Zkx at h;split at h<;>simp at h<;>subst h<;>simp[den,rep]
def Zga:List Value->Option (List SV)
 |[]=>some []
 |v::r=>match Zkx v,Zga r with
  |some s,some l=>some (s::l)
  |_,_=>none
theorem ZhJ (E:Env):∀(vs:List Value) (cs:List SV),Zga vs=some cs->Yf E cs vs
 |[],cs,h=>by simp[Zga]at h;subst h;trivial
 |v::r,cs,h=>by
  simp only[Zga]at h;split at h
  ·rename_i s l d f
   simp at h;subst h;exact⟨Zmm E v s d,ZhJ E r l f⟩
  ·simp at h
def ZvS (v:Value) (K:SV->Prop):Prop :=
 match v with
 | .agg cs=>match Zga cs.toList with
  |some l=>K (.agg l)
  |none=>False
 |v=>match Zkx v with
  |some s=>K s
  |none=>False
theorem ZvT (E:Env) (v:Value) (K:SV->Prop) (h:ZvS v K):∃s,den E s v/\K s:=by
 unfold ZvS at h;split at h
 ·rename_i cs
  split at h
  ·rename_i l q
   exact⟨.agg l,by simp only[den];exact⟨cs.toList,by simp,ZhJ E _ _ q⟩,h⟩
  ·exact h.elim
 ·split at h
  ·rename_i s H;exact⟨s,Zmm E _ s H,h⟩
  ·exact h.elim
def ZoC (v:Value) (K:List SV->Prop):Prop :=
 match Zga v.cells.toList with
 |some l=>K l
 |none=>False
theorem Zf9 (E:Env) (v:Value) (K:List SV->Prop) (h:ZoC v K):∃l,Yf E l v.cells.toList/\K l:=by
 unfold ZoC at h;split at h
 ·rename_i l q;exact⟨l,ZhJ E _ _ q,h⟩
 ·exact h.elim
def JE (r:List SV) (o:Operand) (K:SV->Prop):Prop :=
 match o with
 | .tmp t=>ZmN r t K
 | .const v=>ZvS v K
 | .func f=>K (.fn f [])
 | .global _=>False
theorem Yr {r:List SV} {a:Act} (L:Yf E r a.tmps.toList) {o:Operand} {K:SV->Prop} (h:JE r o K):∃s,den E s (a.eval o)/\K s:=by
 cases o with
 |tmp t =>
  obtain⟨s,v,d,b,c,_⟩:=ZbU _ _ L h;refine⟨s,?_,c⟩;have:a.eval (.tmp t)=v:=by
   have H:a.tmps[t]?=some v:=by simpa using d
   simp[Act.eval,H]
  rw[this];exact b
 |const v=>exact ZvT E v K h
 |func f=>exact⟨_,by simp only[den];exact⟨[],by simp[Act.eval],trivial⟩,h⟩
 |global g=>exact h.elim
def SV.one:SV->Bool
 | .bot=>false
 | .agg _=>false
 | .tup _=>false
 |_=>true
variable {s:SV}
theorem ZiS (h:den E s v) (d:s.one=true):v.cells=#[v]/\v.oneCell'=true:=by
 cases s<;>simp[SV.one]at d<;>simp only[den]at h
 case int=>subst h;exact⟨rfl,rfl⟩
 case bool=>subst h;exact⟨rfl,rfl⟩
 case blit=>subst h;exact⟨rfl,rfl⟩
 case str=>subst h;exact⟨rfl,rfl⟩
 case sl=>obtain⟨a,c,e,_⟩:=h;simp at e;subst e;exact⟨rfl,rfl⟩
 case nsl=>subst h;exact⟨rfl,rfl⟩
 case ptr=>obtain⟨b,_,e⟩:=h;subst e;exact⟨rfl,rfl⟩
 case own=>obtain⟨_,a,n,c,e⟩:=h;subst e;exact⟨rfl,rfl⟩
 case oep=>obtain⟨b,B,n,c,_,e⟩:=h;subst e;exact⟨rfl,rfl⟩
 case fptr=>obtain⟨p,vs,e,_⟩:=h;subst e;exact⟨rfl,rfl⟩
 case fn=>obtain⟨vs,e,_⟩:=h;subst e;exact⟨rfl,rfl⟩
 case nilp=>subst h;exact⟨rfl,rfl⟩
 case nptr=>rcases h with⟨_,e⟩|⟨_,_,_,_,e,_⟩<;>simp at e<;>subst e<;>exact⟨rfl,rfl⟩
 case mown=>obtain⟨_,b,e⟩:=h;subst e;exact⟨rfl,rfl⟩
 case mp=>rcases h with⟨_,e⟩|⟨_,_,_,e,_⟩<;>simp at e<;>subst e<;>exact⟨rfl,rfl⟩
def SV.cells:SV->List SV
 | .agg cs=>cs
 |s=>[s]
def SV.whole:SV->Bool
 | .agg _=>true
 |s=>s.one
def Zpa:List SV->Bool
 |[]=>true
 |s::r=>s.one&&Zpa r
theorem JJ (h:den E s v) (c:s.whole=true):Yf E s.cells v.cells.toList:=by
 by_cases d:s.one=true
 ·have:=(ZiS h d).1
  rw[this];cases s<;>simp[SV.one]at d<;>exact⟨h,trivial⟩
 ·cases s<;>simp[SV.one]at d<;>simp[SV.whole,SV.one]at c
  case agg cs =>
   simp only[den]at h;obtain⟨vs,rfl,f⟩:=h;simpa[SV.cells,Value.cells]using f
theorem ZgI {E:Env}:∀(cs:List SV) (vs:List Value),Yf E cs vs->Zpa cs=true->∀v∈vs,v.oneCell'=true
 |[],[],_,_,v,a=>by simp at a
 |c::cs,v0::vs,h,d,v,a=>by
  simp only[Yf]at h;simp only[Zpa,Up]at d;rcases Us.1 a with rfl|a
  ·exact(ZiS h.1 d.1).2
  ·exact ZgI cs vs h.2 d.2 v a
 |[],_::_,h,_,_,_=>by simp[Yf]at h
 |_::_,[],h,_,_,_=>by simp[Yf]at h
def ZB1 {a v' k v:Ty} (H:a=k) (h:v'=v) (d:List (a.den×v'.den)) (K:List (k.den×v.den)->Prop):Prop :=
 Eq.rec (motive:=λk _=>(List (k.den×v.den)->Prop)->Prop) (λK=>Eq.rec (motive:=λv _=>(List (a.den×v.den)->Prop)->Prop) (λK=>K d) h K) H K
def X0:(t:Ty)->List SV->(t.den->List SV->Prop)->Prop
 | .int k,cs,K=>match cs with
  | .int c n::r=>if c=k then K n r else False
  |_=>False
 | .bool,cs,K=>match cs with
  | .bool b::r=>K b r
  | .blit b::r=>K b r
  |_=>False
 | .str,cs,K=>match cs with
  | .str s::r=>K s r
  |_=>False
 | .sl t,cs,K=>match cs with
  | .sl t' d::r=>if h:t'=t then Zux h d λD=>K D r else False
  | .nsl::r=>K [] r
  |_=>False
 | .unit,cs,K=>K () cs
 | .ptr t,cs,K=>match cs with
  | .fptr C::r=>X0 t C λx _=>K x r
  | .nptr t' d::r=>if h:t'=t then ZzZ h d λD=>∃x,D=some x/\K x r else False
  |_=>False
 | .nptr t,cs,K=>match cs with
  | .nptr t' d::r=>if h:t'=t then ZzZ h d λD=>K D r else False
  | .nilp::r=>K none r
  | .fptr C::r=>X0 t C λx _=>K (some x) r
  |_=>False
 | .mp k v,cs,K=>match cs with
  | .mp c v' d::r=>if h:c=k then(if h':v'=v then ZB1 h h' d λD=>K D r else False)else False
  |_=>False
 | .fn f t,cs,K=>match cs with
  | .fn F C::r=>if F=f then X0 t C λx R=>match R with
    |[]=>K x r
    |_=>False
   else False
  |_=>False
 | .pair a b,cs,K=>X0 a cs λx r=>X0 b r λy R=>K (x,y) R
theorem XD {E:Env}:∀(t:Ty) (cs:List SV) (K:t.den->List SV->Prop) (vs:List Value),Yf E cs vs->X0 t cs K->
  ∃d r v1 V,vs=v1++V/\rep E.S E.w t d v1/\Yf E r V/\K d r
 | .int k,cs,K,vs,L,h=>by
  simp only[X0]at h;split at h
  ·rename_i J n r
   split at h
   ·rename_i e;subst e
    match vs,L with
    |v::vs,L=>simp only[Yf,den]at L;exact⟨n,r,[v],vs,rfl,by rw[L.1];rfl,L.2,h⟩
    |[],L=>simp[Yf]at L
   ·exact h.elim
  ·exact h.elim
 | .bool,cs,K,vs,L,h=>by
  simp only[X0]at h;split at h
  ·rename_i b r
   match vs,L with
   |v::vs,L=>simp only[Yf,den]at L;exact⟨b,r,[v],vs,rfl,by rw[L.1];rfl,L.2,h⟩
   |[],L=>simp[Yf]at L
  ·rename_i b r
   match vs,L with
   |v::vs,L=>simp only[Yf,den]at L;exact⟨b,r,[v],vs,rfl,by rw[L.1];rfl,L.2,h⟩
   |[],L=>simp[Yf]at L
  ·exact h.elim
 | .str,cs,K,vs,L,h=>by
  simp only[X0]at h;split at h
  ·rename_i b r
   match vs,L with
   |v::vs,L=>simp only[Yf,den]at L;exact⟨b,r,[v],vs,rfl,by rw[L.1];rfl,L.2,h⟩
   |[],L=>simp[Yf]at L
  ·exact h.elim
 | .sl t,cs,K,vs,L,h=>by
  simp only[X0]at h;split at h
  ·rename_i t' d r
   split at h
   ·rename_i e;subst e
    match vs,L with
    |v::vs,L=>simp only[Yf,den]at L;exact⟨d,r,[v],vs,rfl,L.1,L.2,h⟩
    |[],L=>simp[Yf]at L
   ·exact h.elim
  ·rename_i r
   match vs,L with
   |v::vs,L=>simp only[Yf,den]at L;exact⟨[],r,[v],vs,rfl,by rw[L.1];exact⟨none,0,rfl,UE _,λ_=>rfl,.inl rfl⟩,L.2,h⟩
   |[],L=>simp[Yf]at L
  ·exact h.elim
 | .unit,cs,K,vs,L,h=>⟨(),cs,[],vs,rfl,rfl,L,h⟩
 | .ptr t,cs,K,vs,L,h=>by
  simp only[X0]at h;split at h
  ·rename_i C r
   match vs,L with
   |v::vs,L =>
    simp only[Yf,den] at L;obtain ⟨⟨p,xs,e,o,s,Z,H⟩,c⟩:=L;obtain ⟨d,R,v1,V,e1,l,m,g⟩:=XD t C _ xs H h;exact ⟨d,r,[v],vs,rfl,⟨p,v1,by rw[e],o,s,λj u q=>Z j u (by
     rw[e1,Uy (Ub.1 q).1];exact q),l⟩,c,g⟩
   |[],L=>simp[Yf]at L
  ·rename_i t' d r
   split at h
   ·rename_i e;subst e
    rw[Ztp]at h;obtain⟨x,Z,h⟩:=h
    match vs,L with
    |v::vs,L =>
     simp only[Yf,den]at L;have Z:d=some x:=Z;rcases L.1 with⟨i,_⟩|⟨X,p,xs,i,e,o,s,G,I⟩
     ·rw[Z]at i;cases i
     ·rw[Z]at i;injection i with i;subst i
      exact⟨x,r,[v],vs,rfl,⟨p,xs,e,o,s,G,I⟩,L.2,h⟩
    |[],L=>simp[Yf]at L
   ·exact h.elim
  ·exact h.elim
 | .nptr t,cs,K,vs,L,h=>by
  simp only[X0]at h;split at h
  ·rename_i t' d r
   split at h
   ·rename_i e;subst e
    rw[Ztp]at h
    match vs,L with
    |v::vs,L=>simp only[Yf,den]at L;exact⟨d,r,[v],vs,rfl,L.1,L.2,h⟩
    |[],L=>simp[Yf]at L
   ·exact h.elim
  ·rename_i r
   match vs,L with
   |v::vs,L=>simp only[Yf,den]at L;exact⟨none,r,[v],vs,rfl,.inl ⟨rfl,by rw[L.1]⟩,L.2,h⟩
   |[],L=>simp[Yf]at L
  ·rename_i C r
   match vs,L with
   |v::vs,L =>
    simp only[Yf,den] at L;obtain ⟨⟨p,xs,e,o,s,Z,H⟩,c⟩:=L;obtain ⟨d,R,v1,V,e1,l,m,g⟩:=XD t C _ xs H h;exact ⟨some d,r,[v],vs,rfl,.inr ⟨d,p,v1,rfl,by rw[e],o,s,λj u q=>Z j u (by
     rw[e1,Uy (Ub.1 q).1];exact q),l⟩,c,g⟩
   |[],L=>simp[Yf]at L
  ·exact h.elim
 | .mp k u,cs,K,vs,L,h=>by
  simp only[X0]at h;split at h
  ·rename_i J U d r
   split at h
   ·rename_i e;subst e
    split at h
    ·rename_i e;subst e
     have h:K d r:=h
     match vs,L with
     |v::vs,L=>simp only[Yf,den]at L;exact⟨d,r,[v],vs,rfl,L.1,L.2,h⟩
     |[],L=>simp[Yf]at L
    ·exact h.elim
   ·exact h.elim
  ·exact h.elim
 | .fn f t,cs,K,vs,L,h=>by
  simp only[X0]at h;split at h
  ·rename_i N C r
   split at h
   ·rename_i e;subst e
    match vs,L with
    |v::vs,L =>
     simp only[Yf,den]at L;obtain⟨⟨xs,e,H⟩,c⟩:=L;obtain⟨d,R,v1,V,e1,l,m,g⟩:=XD t C _ xs H h;split at g
     ·have z:V=[]:=by cases V with
       |nil=>rfl
       |cons=>simp[Yf]at m
      subst z;rw[Um]at e1;subst e1;exact⟨d,r,[v],vs,rfl,⟨xs,by rw[e],l⟩,c,g⟩
     ·exact g.elim
    |[],L=>simp[Yf]at L
   ·exact h.elim
  ·exact h.elim
 | .pair a b,cs,K,vs,L,h=>by
  obtain⟨x,r,v1,V,e1,l,m,g⟩:=XD a cs _ vs L h;obtain⟨y,R,v3,M,A,B,D,F⟩:=XD b r _ V m g;exact⟨(x,y),R,v1++v3,M,by rw[e1,A,Un],⟨v1,v3,rfl,l,B⟩,D,F⟩
def ZF1 (op:BinOp) (k:IntKind) (a b:Int) (K:SV->Prop):Prop :=
 match op with
 | .add=>K (.int k (k.wrap (a+b)))
 | .sub=>K (.int k (k.wrap (a-b)))
 | .mul=>K (.int k (k.wrap (a*b)))
 | .quo=>b≠0/\K (.int k (k.wrap (a.tdiv b)))
 | .rem=>b≠0/\K (.int k (a.tmod b))
 | .eql=>K (.bool (decide (a=b)))
 | .neq=>K (.bool (!decide (a=b)))
 | .lss=>K (.bool (decide (a<b)))
 | .leq=>K (.bool (decide (a<=b)))
 | .gtr=>K (.bool (decide (b<a)))
 | .geq=>K (.bool (decide (b<=a)))
 | .and=>K (.int k (bits .and k a b))
 | .or=>K (.int k (bits .or k a b))
 | .xor=>K (.int k (bits .xor k a b))
 | .andNot=>K (.int k (bits .andNot k a b))
 |_=>False
def ZDE (op:BinOp) (x y:SV) (K:SV->Prop):Prop :=
 match x,y with
 | .int k a,.int c b=>match op with
  | .shl=>0<=b/\K (.int k (k.wrap (a*2^(min b.toNat k.bits))))
  | .shr=>0<=b/\K (.int k (a.fdiv (2^(min b.toNat k.bits))))
  |op=>if k=c then ZF1 op k a b K else False
 | .str a,.str b=>match op with
  | .add=>(a.length:Int)+b.length<=9223372036854775807/\K (.str (a++b))
  | .eql=>K (.bool (decide (a=b)))
  | .neq=>K (.bool (!decide (a=b)))
  |_=>False
 |_,_=>False
section
variable {P:Program}
variable {α:Type}
theorem Zbj [BEq α] [LawfulBEq α] [DecidableEq α] (a b:α):(a==b)=decide (a=b):=by
 by_cases h:a=b<;>simp[h]
theorem Zjw [BEq α] [LawfulBEq α] [DecidableEq α] (a b:α):(a != b) = !decide (a=b):=by
 by_cases h:a=b<;>simp[h]
variable (a:List UInt8)
theorem ZgK:(⟨a.toArray⟩:ByteArray).toList=a:=by
 exact ByteArray.toList_mk a
theorem bytes_append (b:List UInt8):(⟨a.toArray⟩:ByteArray)++⟨b.toArray⟩=⟨(a++b).toArray⟩:=by
 apply ByteArray.ext;simp
variable (E:Env)
theorem ZaR (k:IntKind) (n:Int):den E (.int k n) (.int k n):=by simp only[den]
variable (b:Bool)
theorem JK:den E (.bool b) (.bool b):=by simp only[den]
theorem Ztu:den E (.blit b) (.bool b):=by simp only[den]
theorem Zlg (s:List UInt8):den E (.str s) (.string ⟨s.toArray⟩):=by simp only[den]
variable {E:Env} {op:BinOp} {K:SV->Prop}
theorem ZAk {k:IntKind} {a b:Int} (h:ZF1 op k a b K) (t:TypeId) :
  ∃r s,(∀w,(binOp op t (.int k a) (.int k b)).run P w=.ok r w)/\den E s r/\K s:=by
 cases op
 case add=>exact⟨_,_,λw=>by simp only[binOp_add];exact rfl,ZaR ..,h⟩
 case sub=>exact⟨_,_,λw=>by simp only[binOp_sub];exact rfl,ZaR ..,h⟩
 case mul=>exact⟨_,_,λw=>by simp only[binOp_mul];exact rfl,ZaR ..,h⟩
 case quo=>exact⟨_,_,λw=>by rw[binOp_quo,Op.intDiv,Ue h.1];exact rfl,ZaR ..,h.2⟩
 case rem=>exact⟨_,_,λw=>by rw[binOp_rem,Op.intDiv,Ue h.1];exact rfl,ZaR ..,h.2⟩
 case eql=>exact⟨_,_,λw=>by rw[binOp_eql];exact rfl,JK ..,h⟩
 case neq=>exact⟨_,_,λw=>by rw[binOp_neq];exact rfl,JK ..,h⟩
 case lss=>exact⟨_,_,λw=>by rw[binOp_lss];exact rfl,JK ..,h⟩
 case leq=>exact⟨_,_,λw=>by rw[binOp_leq];exact rfl,JK ..,h⟩
 case gtr=>exact⟨_,_,λw=>by rw[binOp_gtr];exact rfl,JK ..,h⟩
 case geq=>exact⟨_,_,λw=>by rw[binOp_geq];exact rfl,JK ..,h⟩
 case and=>exact⟨_,_,λw=>by rw[binOp_and,intBits_and];exact rfl,ZaR ..,h⟩
 case or=>exact⟨_,_,λw=>by rw[binOp_or,intBits_or];exact rfl,ZaR ..,h⟩
 case xor=>exact⟨_,_,λw=>by rw[binOp_xor,intBits_xor];exact rfl,ZaR ..,h⟩
 case andNot=>exact⟨_,_,λw=>by rw[binOp_andNot,intBits_andNot];exact rfl,ZaR ..,h⟩
 all_goals exact h.elim
variable {x:SV} {u:Value}
theorem ZzT {y:SV} (h:ZDE op x y K) {v:Value} (H:den E x u) (c:den E y v) (t:TypeId) (o O:Operand) :
  ∃r s,(∀w,((do eqGuard op t o O u v;binOp op t u v:Sem Value)).run P w=.ok r w)/\den E s r/\K s:=by
 unfold ZDE at h;split at h
 ·rename_i k a i b
  simp only[den]at H c;subst H;subst c;have g:eqGuard op t o O (.int k a) (.int i b)=pure ():=eqGuard_at_int ..;rw[g,pure_bind];split at h
  ·have:¬b<0:=by omega
   exact⟨_,_,λw=>by rw[binOp_shl,Op.shift,Ue this];exact rfl,ZaR ..,h.2⟩
  ·have:¬b<0:=by omega
   exact⟨_,_,λw=>by rw[binOp_shr,Op.shift,Ue this];exact rfl,ZaR ..,h.2⟩
  ·split at h
   ·rename_i e;subst e
    exact ZAk h t
   ·exact h.elim
 ·rename_i a b
  simp only[den]at H c;subst H;subst c;have g:eqGuard op t o O (.string ⟨a.toArray⟩) (.string ⟨b.toArray⟩)=pure ():=eqGuard_at_string ..;rw[g,pure_bind];split at h
  ·have q:¬((((⟨a.toArray⟩:ByteArray).size+(⟨b.toArray⟩:ByteArray).size:Nat):Int)>IntKind.i64.max):=by
    have d:(⟨a.toArray⟩:ByteArray).size=a.length:=by simp[ByteArray.size]
    have f:(⟨b.toArray⟩:ByteArray).size=b.length:=by simp[ByteArray.size]
    rw[d,f,IntKind.max_i64];have:=h.1;omega
   exact⟨_,_,λw=>by simp only[binOp,Op.stringOp,Ue q,bytes_append];exact rfl,Zlg ..,h.2⟩
  ·exact⟨_,_,λw=>by simp only[binOp,Op.stringOp,ZgK,Zbj,Zjw];exact rfl,JK ..,h⟩
  ·exact⟨_,_,λw=>by simp only[binOp,Op.stringOp,ZgK,Zbj,Zjw];exact rfl,JK ..,h⟩
  ·exact h.elim
 ·exact h.elim
def unK (op:UnOp) (x:SV) (K:SV->Prop):Prop :=
 match op,x with
 | .neg,.int k n=>K (.int k (k.wrap (0-n)))
 | .not,.bool b=>K (.bool (!b))
 | .not,.blit true=>K (.blit false)
 | .not,.blit false=>K (.blit true)
 |_,_=>False
theorem ZCV {op:UnOp} (h:unK op x K) (a:den E x u) :
  ∃r s,(∀w,(Op.unary op u).run P w=.ok r w)/\den E s r/\K s:=by
 unfold unK at h;split at h
 ·simp only[den]at a;subst a;exact⟨_,_,λ_=>rfl,ZaR ..,h⟩
 ·simp only[den]at a;subst a;exact⟨_,_,λ_=>rfl,JK ..,h⟩
 ·simp only[den]at a;subst a;exact⟨_,_,λ_=>rfl,Ztu ..,h⟩
 ·simp only[den]at a;subst a;exact⟨_,_,λ_=>rfl,Ztu ..,h⟩
 ·exact h.elim
end
section
variable {P:Program}
variable {T:TypeId} {t:TI}
theorem Zdi.info' (h:Zdi P T t):∃i,P.info? T=some i/\i.size=t.size/\i.bytes=t.bytes/\i.zero=some t.zero:=by
 have:=h.info;cases l:P.info? T with
 |none=>simp[l]at this
 |some i=>simp[l]at this;exact⟨i,rfl,this.1,this.2.1,this.2.2⟩
theorem Zdi.get (h:Zdi P T t):∃d,P.underlying T=some d/\Zvq d=t.kind:=by
 have:=h.kind;cases L:P.underlying T with
 |none=>simp[L]at this
 |some d=>exact⟨d,rfl,by simpa[L]using this⟩
theorem Zdi.slice (h:Zdi P T t) (H:t.kind=.sl) :
  P.underlying T=some (.slice t.elem)/\(P.underlying t.elem).map ZhF=some t.eagg/\∃i,P.info? t.elem=some i/\i.size=t.esize/\i.bytes=t.ebytes/\i.zero=some t.ezero:=by
 obtain⟨d,L,u⟩:=h.get;rw[H]at u;obtain⟨e,rfl⟩:∃e,d=.slice e:=by cases d<;>simp[Zvq]at u;exact⟨_,rfl⟩
 have:=h.elem;rw[L,H]at this;simp only[Option.some.injEq,Prod.mk.injEq]at this;obtain⟨a,f,g⟩:=this;subst a;refine⟨L,g,?_⟩;cases l:P.info? t.elem with
 |none=>simp[l]at f
 |some i=>simp[l]at f;exact⟨i,rfl,f.1,f.2.1,f.2.2⟩
theorem Zdi.array (h:Zdi P T t) {n:Nat} (H:t.kind=.arr n) :
  P.underlying T=some (.array n t.elem)/\(P.underlying t.elem).map ZhF=some t.eagg/\∃i,P.info? t.elem=some i/\i.size=t.esize/\i.bytes=t.ebytes/\i.zero=some t.ezero:=by
 obtain⟨d,L,u⟩:=h.get;rw[H]at u;obtain⟨e,rfl⟩:∃e,d=.array n e:=by cases d<;>simp[Zvq]at u;subst u;exact⟨_,rfl⟩
 have:=h.elem;rw[L,H]at this;simp only[Option.some.injEq,Prod.mk.injEq]at this;obtain⟨a,f,g⟩:=this;subst a;refine⟨L,g,?_⟩;cases l:P.info? t.elem with
 |none=>simp[l]at f
 |some i=>simp[l]at f;exact⟨i,rfl,f.1,f.2.1,f.2.2⟩
theorem ZrU (h:Zdi P T t) (w:World):(isAgg T).run P w=.ok t.kind.agg w:=by
 obtain⟨d,L,H⟩:=h.get;unfold isAgg;rw[Sem.run_bind,run_underlying L,<-H];simp only[Result.andThen_ok];cases d<;>rfl
theorem run_sizeOf {i:TypeInfo} (h:P.info? T=some i) (w:World):(sizeOf T).run P w=.ok i.size w:=by
 simp[sizeOf,typeInfo,h]
theorem Zff (h:Zdi P T t) (w:World) (p:Addr) (vs:List Value) (s:∀j u,vs[j]?=some u->w.cell? (p.add j)=some u)
  (q:t.kind.agg=true->vs.length=t.size) :
  (t.kind.agg=true->(loadVar T p).run P w=.ok (.agg vs.toArray) w)/\
  (t.kind.agg=false->∀u,vs[0]?=some u->(loadVar T p).run P w=.ok u w):=by
 obtain⟨i,l,H,_⟩:=h.info';constructor
 ·intro m
  unfold loadVar;rw[Sem.run_bind,ZrU h,m];simp only[Result.andThen_ok,Uk];rw[Sem.run_bind,run_sizeOf l,Result.andThen_ok,H,<-q m,Sem.run_bind,run_loadCells_list w p vs s];rfl
 ·intro m u a
  unfold loadVar;rw[Sem.run_bind,ZrU h,m];have:=s 0 u a;simp only[Addr.add,Uk]at this;simp[this]
def VE (t:TI) (cs:List SV) (K:SV->Prop):Prop :=
 if t.kind.agg=true then Zo4 cs t.size λl=>if l.length=t.size then K (.agg l)else False
 else match cs with
  |c::_=>K c
  |[]=>False
variable {E:Env} {K:SV->Prop}
theorem ZhU (h:Zdi P T t) (w:World) (p:Addr) {cs:List SV} (H:VE t cs K)
  (vs:List Value) (L:Yf E cs vs) (d:∀j u,vs[j]?=some u->w.cell? (p.add j)=some u) :
  ∃v s,ZxZ P w (loadVar T p) v/\den E s v/\K s:=by
 unfold VE at H;split at H
 ·rename_i m
  rw[Zic]at H;split at H
  ·rename_i q
   have b:=Zgk cs vs L t.size;have g:=YG _ _ b;have f:=λw' (hst:ZqV w w')=>Zff h w' p (vs.take t.size) (λj u a=>hst _ _ (d j u (by
    rw[UB]at a;split at a
    ·exact a
    ·cases a))) (λ_=>by rw[<-g];exact q)
   exact⟨_,.agg _,λw' hst=>(f w' hst).1 m,by simp only[den];exact⟨_,rfl,b⟩,H⟩
  ·exact H.elim
 ·rename_i m
  split at H
  ·rename_i c r
   match vs,L with
   |v::vs,L =>
    simp only[Yf]at L;have f:=λw' (hst:ZqV w w')=>Zff h w' p (v::vs) (λj u a=>hst _ _ (d j u a)) (λe=>absurd e m);exact⟨v,c,λw' hst=>(f w' hst).2 (by simpa using m) v rfl,L.1,H⟩
   |[],L=>simp[Yf]at L
  ·exact H.elim
theorem Zks {w:World} {b:Nat} {cs:Array Value} {fr:Nat×Nat} (hh:w.heap[b]?=some (.cells cs T fr)) (o:Nat) :
  ∀j u,(cs.toList.drop o)[j]?=some u->w.cell? ((⟨b,o,none⟩:Addr).add j)=some u:=by
 intro j u a;rw[add_eq,cell_of_row w b (o+j) cs T fr hh];simpa using a
def ZuM (T:TI) (s:SV) (H:List Entry) (K:SV->Prop):Prop :=
 match s with
 | .ptr I o=>ZgN H I λe=>match e with
  | .box cells=>ZiC cells o λcs=>VE T cs K
  | .fbx cells=>ZiC cells o λcs=>VE T cs K
  |_=>False
 | .fptr cs=>VE T cs K
 | .oep I z i o=>ZgN H I λe=>match e with
  | .arr _ t d=>t.size=z/\Zjj d i λx=>Vv t x λcells=>ZiC cells o λcs=>VE T cs K
  | .frz t d=>t.size=z/\Zjj d i λx=>Vv t x λcells=>ZiC cells o λcs=>VE T cs K
  |_=>False
 |_=>False
theorem ZtS {B:Base} {H:List Entry} (J:Inv B E H) {R:TI} (h:Zdi P T R) {s:SV} {v:Value} (q:den E s v) (k:ZuM R s H K) :
  ∃u r,ZxZ P E.w (Instr.loadAt T v) u/\den E r u/\K r:=by
 have key:∀(p:Addr) (cs:List SV) (vs:List Value),v=.pointer (some p)->VE R cs K->Yf E cs vs->(∀j u,vs[j]?=some u->E.w.cell? (p.add j)=some u)->
   ∃u r,ZxZ P E.w (Instr.loadAt T v) u/\den E r u/\K r:=by
  intro p cs vs X k M A;obtain⟨u,r,m,l,g⟩:=ZhU h E.w p k vs M A;subst X;exact⟨u,r,λw' hst=>by simp only[Instr.loadAt,Instr.sureAddr,pure_bind];exact m w' hst,l,g⟩
 unfold ZuM at k;split at k
 ·rename_i I o
  obtain⟨e,D,k⟩:=Y0 H k;split at k
  ·rename_i cells
   rw[Zcp]at k;simp only[den]at q;obtain⟨b,m,rfl⟩:=q;obtain⟨S,cs,T',f,l,g⟩:=J.ent I _ D;have:=m.symm.trans f;simp at this;subst this;exact key _ _ (cs.toList.drop o) rfl k (JL _ _ g o) (Zks l o)
  ·rename_i cells
   rw[Zcp]at k;simp only[den]at q;obtain⟨b,m,rfl⟩:=q;obtain⟨S,cs,T',f,_,l,g⟩:=J.ent I _ D;have:=m.symm.trans f;simp at this;subst this;exact key _ _ (cs.toList.drop o) rfl k (JL _ _ g o) (Zks l o)
  ·exact k.elim
 ·rename_i cs
  simp only[den]at q;obtain⟨p,vs,rfl,W,_,A,M⟩:=q;exact key p cs vs rfl k M A
 ·rename_i I sz i o
  obtain⟨e,D,k⟩:=Y0 H k;simp only[den]at q;obtain⟨b,G,n,c,m,rfl⟩:=q;split at k
  ·rename_i et t d
   obtain⟨Y,N,F,k⟩:=k;have y:i.toNat<d.length:=by omega
   obtain⟨x,Z⟩:∃x,d[i.toNat]?=some x:=⟨_,Ua y⟩;have k:=k x Z;simp only[Qg,Zcp]at k;obtain⟨v',xs,f,l,g⟩:=J.ent I _ D;have:=m.symm.trans f;simp at this;subst this;obtain⟨vs,O,C⟩:=Zhx (λd vs=>X3 t d vs) _ _ g _ x Z;have L:=l.Zgh rfl;refine key _ _ (vs.drop o) rfl k (JL _ _ (XB t x vs O) o) (λj u Q=>?_);have z:vs[o+j]?=some u:=by simpa using Q
   have:=L _ u (C _ _ z);rw[add_eq]at this ⊢;rw[<-Y];rw[show G+(i.toNat*t.size+o)+j=G+(i.toNat*t.size+(o+j)) by omega];exact this
  ·rename_i t d
   obtain⟨Y,N,F,k⟩:=k;have y:i.toNat<d.length:=by omega
   obtain⟨x,Z⟩:∃x,d[i.toNat]?=some x:=⟨_,Ua y⟩;have k:=k x Z;simp only[Qg,Zcp]at k;obtain⟨v',f,l⟩:=J.ent I _ D;have:=m.symm.trans f;simp at this;subst this;obtain⟨a,U,e1,_,_,g⟩:=l;simp at e1;obtain⟨e1,e2,e3⟩:=e1;rcases g with g|⟨p,xs,V,W,_,L,g⟩
   ·subst g;simp at Z
   ·rw[V]at e1;simp at e1;subst e1
    obtain⟨vs,O,C⟩:=Zhx (λd vs=>X3 t d vs) _ _ g _ x Z;refine key _ _ (vs.drop o) rfl k (JL _ _ (XB t x vs O) o) (λj u Q=>?_);have z:vs[o+j]?=some u:=by simpa using Q
    have:=L _ u (C _ _ z);rw[add_eq]at this ⊢;rw[<-Y];rw[show G+(i.toNat*t.size+o)+j=G+(i.toNat*t.size+(o+j)) by omega];exact this
  ·exact k.elim
 ·exact k.elim
end
section
variable {P:Program}
def ZBL:List (Nat×Nat×Bool)->Nat->(Nat->Nat->Bool->Prop)->Prop
 |[],_,_=>False
 |(o,s,g)::_,0,K=>K o s g
 |_::r,n+1,K=>ZBL r n K
theorem Zqt:∀(l:List (Nat×Nat×Bool)) {n:Nat} {K:Nat->Nat->Bool->Prop},ZBL l n K->∃o s g,l[n]?=some (o,s,g)/\K o s g
 |[],_,_,h=>h.elim
 |(o,s,g)::_,0,K,h=>⟨o,s,g,rfl,h⟩
 |_::r,n+1,K,h=>by simpa using Zqt r (n:=n) h
variable {T:TypeId} {t:TI} {f:Nat}
theorem Zdi.field (h:Zdi P T t) (n:t.kind=.st) {o s:Nat} {g:Bool} (m:t.flds[f]?=some (o,s,g)) :
  ∃a,P.underlying T=some (.struct a)/\∃F i d,a[f]?=some F/\F.offset=o/\P.info? F.type=some i/\i.size=s/\P.underlying F.type=some d/\ZhF d=g:=by
 obtain⟨D,L,u⟩:=h.get;rw[n]at u;obtain⟨a,rfl⟩:∃a,D=.struct a:=by cases D<;>simp[Zvq]at u;exact⟨_,rfl⟩
 have:=h.flds;rw[L]at this;have b:=Ka (·[f]?) this;simp only[UL,m,Kl,Kh]at b;cases H:a[f]? with
 |none=>simp[H]at b
 |some F =>
  simp only[H,Kl,Option.some.injEq,Prod.mk.injEq]at b;obtain⟨k,e,j⟩:=b;cases l:P.info? F.type with
  |none=>simp[l]at e
  |some i =>
   cases c:P.underlying F.type with
   |none=>simp[c]at j
   |some d=>exact⟨a,L,F,i,d,H,k,l,by simpa[l]using e,c,by simpa[c]using j⟩
def Zlj (t:TI) (s:SV) (f:Nat) (K:SV->Prop):Prop :=
 if t.kind.ZDn=true then ZBL t.flds f λo z _=>if z=0 then False else
  match s with
  | .ptr I O=>K (.ptr I (O+o))
  | .oep I e i O=>K (.oep I e i (O+o))
  | .fptr cs=>ZiC cs o λC=>K (.fptr C)
  |_=>False
 else False
variable {E:Env} {s:SV} {v:Value} {K:SV->Prop}
theorem Zp6 (h:Zdi P T t) (q:den E s v) (H:Zlj t s f K) :
  ∃u r,ZoF P (Instr.fieldAt T v f) u/\den E r u/\K r:=by
 unfold Zlj at H;split at H
 ·rename_i hst
  obtain⟨o,S,g,C,H⟩:=Zqt _ H;split at H
  ·exact H.elim
  ·rename_i Y
   have L:t.kind=.st:=by cases e:t.kind<;>simp[TK.ZDn,e]at hst;rfl
   obtain⟨N,w,F,i,d,l,G,D,m,_,_⟩:=h.field L C;have key:∀(p:Addr),v=.pointer (some p)->ZoF P (Instr.fieldAt T v f) (.pointer (some (p.add o))):=by
    intro p I w';subst I;have y:¬i.size=0:=by rw[m];exact Y
    simp only[Instr.fieldAt,Sem.run_bind,run_underlying w,Result.andThen_ok,l,Instr.sureAddr,Sem.run_pure,fieldPlace,run_sizeOf D,y,Uj,G]
   split at H
   ·rename_i J O
    simp only[den]at q;obtain⟨b,a,rfl⟩:=q;refine⟨_,_,key _ rfl,?_,H⟩;simp only[den];exact⟨b,a,by rw[add_eq]⟩
   ·rename_i J M Q O
    simp only[den]at q;obtain⟨b,B,n,c,a,rfl⟩:=q;refine⟨_,_,key _ rfl,?_,H⟩;simp only[den];exact⟨b,B,n,c,a,by rw[add_eq,Nat.add_assoc,Nat.add_assoc]⟩
   ·rename_i cs
    simp only[den]at q;obtain⟨p,vs,rfl,z,A,x,k⟩:=q;rw[Zcp]at H;refine⟨_,_,key _ rfl,?_,H⟩;simp only[den];refine⟨p.add o,vs.drop o,rfl,ZpQ _ _ z,by rw[add_block];exact A,λj u w=>?_,JL _ _ k o⟩;rw[add_add _ _ _ z];exact x _ u (by simpa using w)
   ·exact H.elim
 ·exact H.elim
def Zwj (t:TI) (s:SV) (f:Nat) (K:SV->Prop):Prop :=
 if t.kind.ZDn=true then ZBL t.flds f λo z g =>
  match s with
  | .agg cs=>ZiC cs o λC=>if g=true then Zo4 C z λl=>if l.length=z then K (.agg l)else False
   else match C with
    |c::_=>K c
    |[]=>False
  |_=>False
 else False
theorem Zwk {m:TI} (h:Zdi P T m) (G:den E s v) (k:Zwj m s f K) :
  ∃u r,ZoF P (Instr.field T v f) u/\den E r u/\K r:=by
 unfold Zwj at k;split at k
 ·rename_i hst
  obtain⟨o,S,g,I,k⟩:=Zqt _ k;have L:m.kind=.st:=by cases q:m.kind<;>simp[TK.ZDn,q]at hst;rfl
  obtain⟨O,N,F,i,d,z,M,J,B,C,p⟩:=h.field L I;split at k
  ·rename_i cs
   simp only[den] at G;obtain ⟨vs,rfl,x⟩:=G;rw[Zcp] at k;have H:=JL _ _ x o;have t:∀ w,(part F.type vs.toArray F.offset).run P w=(isAgg F.type >>= λb=>if b then (do pure (.agg (vs.toArray.extract o (o+(<-sizeOf F.type))))) else match vs.toArray[o]? with
     |some v=>pure v
     | none=>stuck "part: no such cell").run P w:=by intro w;rw[part,M];rfl
   have e:∀w,(isAgg F.type).run P w=.ok g w:=by
    intro w;unfold isAgg;rw[Sem.run_bind,run_underlying C];simp only[Result.andThen_ok,<-p];cases d<;>rfl
   have l:∀w,(Instr.field T (.agg vs.toArray) f).run P w=(part F.type vs.toArray F.offset).run P w:=by
    intro w;simp only[Instr.field,Sem.run_bind,run_underlying N,Result.andThen_ok,z,asAgg,Sem.run_pure]
   have n:∀ w,(Instr.field T (.agg vs.toArray) f).run P w=(if g then (do pure (.agg (vs.toArray.extract o (o+(<-sizeOf F.type))))) else match vs.toArray[o]? with
     |some v=>pure v
     | none=>stuck "part: no such cell" : Sem Value).run P w:=by
    intro w;rw[l,t,Sem.run_bind,e,Result.andThen_ok]
   split at k
   ·rename_i A
    rw[Zic]at k;split at k
    ·rename_i Q
     have j:=Zgk _ _ H S;refine⟨.agg ((vs.drop o).take S).toArray,_,?_,by simp only[den];exact⟨_,rfl,j⟩,k⟩;intro w';rw[n,Uc A,Sem.run_bind,run_sizeOf J,Result.andThen_ok,B];simp[List.extract_eq_take_drop]
    ·exact k.elim
   ·rename_i A
    split at k
    ·rename_i c r y
     rw[y]at H;cases a:vs.drop o with
     |nil=>rw[a]at H;simp[Yf]at H
     |cons v0 vr =>
      rw[a]at H;simp only[Yf]at H;refine⟨v0,c,?_,H.1,k⟩;have D:vs[o]?=some v0:=by
       have:=Ka (·[0]?) a;simpa using this
      intro w';rw[n,Ue A];simp[D]
    ·exact k.elim
  ·exact k.elim
 ·exact k.elim
def Zlf:Operand->Option Nat
 | .const (.int _ n)=>match n with
  | .ofNat m=>some m
  |_=>none
 |_=>none
def Zs5 (I o s:Nat):Nat->Nat->Int->(SV->Prop)->Prop
 |0,_,_,_=>True
 |n+1,j,i,K=>(i=(j:Int)->K (.ptr I (o+j*s)))/\Zs5 I o s n (j+1) i K
theorem ZpG (I o s:Nat):∀(n j:Nat) (i:Int) (K:SV->Prop),Zs5 I o s n j i K->(j:Int)<=i->i<(j+n:Nat)->K (.ptr I (o+i.toNat*s))
 |0,j,i,K,_,d,f=>by omega
 |n+1,j,i,K,h,d,f=>by
  by_cases e:i=(j:Int)
  ·have:=h.1 e;rw[e,UG];exact this
  ·exact ZpG I o s n (j+1) i K h.2 (by omega) (by omega)
@[irreducible] def Dead:Prop:=False
theorem Dead.no (h:Dead):False:=by unfold Dead at h;exact h
def Zjb (T:TI) (s S:SV) (a:Operand) (H:List Entry) (K:SV->Prop):Prop :=
 match S with
 | .int _ i=>match T.kind with
  | .sl=>match s with
   | .sl t d=>if t.size=T.esize then Zjj d i λx=>Vv t x λcells=>K (.fptr cells)else False
   | .own I=>ZgN H I λe=>match e with
    | .arr _ t d=>if t.size=T.esize then Zjj d i λ_=>K (.oep I t.size i 0)else False
    | .frz t d=>if t.size=T.esize then Zjj d i λx=>Vv t x λcells=>K (.fptr cells)else False
    | .darr _ e d _=>if e.ty.size=T.esize then Zjj d i λ_=>K (.oep I e.ty.size i 0)else False
    | .hole _ e d _ _ _=>if e.ty.size=T.esize then Zjj d i λ_=>K (.oep I e.ty.size i 0)else False
    | .spl _ e d _ _=>if e.ty.size=T.esize then Zjj d i λ_=>K (.oep I e.ty.size i 0)else False
    | .hsp _ e d _ _ _=>if e.ty.size=T.esize then Zjj d i λ_=>K (.oep I e.ty.size i 0)else False
    |_=>False
   | .nsl=>Dead
   |_=>False
  | .arr n=>match s with
   | .ptr I o=>match Zlf a with
    |some j=>if j<n then K (.ptr I (o+j*T.esize))else False
    |none=>0<=i/\i<(n:Int)/\Zs5 I o T.esize n 0 i K
   |_=>False
  |_=>False
 |_=>False
variable {i:TypeInfo}
theorem run_indexAt {e:TypeId} (a:P.underlying T=some (.slice e)) (l:P.info? e=some i) (w:World) (p:Addr) (len c:Nat) (k:IntKind) (n:Int) (h:0<=n) (d:n<(len:Int)) :
  (Instr.indexAt T (.slice (some p) len c) (.int k n)).run P w=.ok (.pointer (some (p.add (n.toNat*i.size)))) w:=by
 have q:(0<=n/\n<(len:Int)):=⟨h,d⟩;simp[Instr.indexAt,asIntOf,run_underlying a,q,run_sizeOf l]
theorem Zod {e:TypeId} {m:Nat} (a:P.underlying T=some (.array m e)) (l:P.info? e=some i) (w:World) (p:Addr) (k:IntKind) (n:Int) (h:0<=n) (d:n<(m:Int)) :
  (Instr.indexAt T (.pointer (some p)) (.int k n)).run P w=.ok (.pointer (some (p.add (n.toNat*i.size)))) w:=by
 have q:(0<=n/\n<(m:Int)):=⟨h,d⟩;simp[Instr.indexAt,asIntOf,run_underlying a,q,run_sizeOf l,Instr.sureAddr]
theorem ZsA {t:Ty} {d:List t.den} (h:rep E.S E.w (.sl t) d [v]) {i:Nat} {x:t.den} (Z:d[i]?=some x) :
  ∃p c vs,v=.slice (some p) d.length c/\p.spot=none/\E.S p.block/\rep E.S E.w t x vs/\∀j u,vs[j]?=some u->E.w.cell? ((p.add (i*t.size)).add j)=some u:=by
 obtain⟨a,c,e1,_,_,g⟩:=h;simp at e1;rcases g with g|⟨p,xs,rfl,H,s,q,g⟩
 ·subst g;simp at Z
 ·obtain⟨vs,r,C⟩:=Zhx (λd vs=>X3 t d vs) _ _ g _ x Z
  refine⟨p,c,vs,e1,H,s,r,λj u b=>?_⟩;rw[add_add _ _ _ H];exact q _ u (C _ _ b)
theorem ZhR {B:Base} {H:List Entry} (C:Inv B E H) {M:TI} (h:Zdi P T M) {si:SV} {vi:Value} (y:den E s v) (L:den E si vi) {ix:Operand} (a:Zjb M s si ix H K) (X:∀j,Zlf ix=some j->∀k i,si=.int k i->i=(j:Int)) :
  ∃u r,ZoF P (Instr.indexAt T v vi) u/\den E r u/\K r:=by
 unfold Zjb at a;split at a
 ·rename_i k i
  simp only[den]at L;subst L;split at a
  ·rename_i U
   obtain⟨A,_,a0,z,Y,_,_⟩:=h.slice U;have F:∀(t:Ty) (d:List t.den),t.size=M.esize->rep E.S E.w (.sl t) d [v]->Zjj d i (λx=>Vv t x λcells=>K (.fptr cells))->
     ∃u r,ZoF P (Instr.indexAt T v (.int k i)) u/\den E r u/\K r:=by
    intro t d m hr ⟨l,q,f⟩;obtain⟨x,hx⟩:∃x,d[i.toNat]?=some x:=⟨_,Ua (by omega)⟩;have f:=f x hx;simp only[Qg]at f;obtain⟨p,c,vs,rfl,hp,hS,Z,D⟩:=ZsA hr hx;refine⟨_,_,λw=>run_indexAt A z w p _ c k i l q,?_,f⟩;simp only[den];rw[Y,<-m];exact⟨_,vs,rfl,ZpQ _ _ hp,by rw[add_block];exact hS,D,XB t x vs Z⟩
   split at a
   ·rename_i t d
    split at a
    ·rename_i m
     exact F t d m (by simpa only[den]using y) a
    ·exact a.elim
   ·rename_i I
    obtain⟨en,G,a⟩:=Y0 H a;simp only[den]at y;split at a
    ·rename_i N t d
     split at a
     ·rename_i m
      obtain⟨l,q,a⟩:=a;have a:=a _ (Ua (show i.toNat<d.length by omega));obtain⟨v',xs,e1,f,Q⟩:=C.ent I _ G;have:=y.1.symm.trans e1;simp at this;subst this;rcases f.2 with⟨rfl,W⟩|⟨g,c,cur,o,rfl,_,hh,D,_⟩
      ·omega
      ·refine⟨_,_,λw=>run_indexAt A z w _ _ c k i l q,?_,a⟩
       simp only[den];exact⟨g,o,_,c,e1,by rw[add_eq,Y,m];simp⟩
     ·exact a.elim
    ·rename_i t d
     split at a
     ·rename_i m
      obtain⟨v',e1,f⟩:=C.ent I _ G;have:=y.1.symm.trans e1;simp at this;subst this;exact F t d m f a
     ·exact a.elim
    ·rename_i N e d R
     split at a
     ·rename_i m
      obtain⟨l,q,a⟩:=a;have a:=a _ (Ua (show i.toNat<d.length by omega));obtain⟨v',xs,a1,e1,f,Q⟩:=C.ent I _ G;have:=y.1.symm.trans e1;simp at this;subst this;rcases f.2 with⟨rfl,W⟩|⟨g,c,cur,o,rfl,_,hh,D,_⟩
      ·omega
      ·refine⟨_,_,λw=>run_indexAt A z w _ _ c k i l q,?_,a⟩
       simp only[den];exact⟨g,o,_,c,e1,by rw[add_eq,Y,m];simp⟩
     ·exact a.elim
    ·rename_i N e d j cs R
     split at a
     ·rename_i m
      obtain⟨l,q,a⟩:=a;have a:=a _ (Ua (show i.toNat<d.length by omega));obtain⟨v',xs,x1,vx,x2,f1,f2,e1,f,Q⟩:=C.ent I _ G;have:=y.1.symm.trans e1;simp at this;subst this;rcases f.2 with⟨rfl,W⟩|⟨g,c,cur,o,rfl,_,hh,D,_⟩
      ·omega
      ·refine⟨_,_,λw=>run_indexAt A z w _ _ c k i l q,?_,a⟩
       simp only[den];exact⟨g,o,_,c,e1,by rw[add_eq,Y,m];simp⟩
     ·exact a.elim
    ·rename_i N e d n R
     split at a
     ·rename_i m
      obtain⟨l,q,a⟩:=a;have a:=a _ (Ua (show i.toNat<d.length by omega));obtain⟨v',e1,⟨xs,x1,x2,f1,f,Q⟩,_⟩:=C.ent I _ G;have:=y.1.symm.trans e1;simp at this;subst this;rcases f.2 with⟨rfl,W⟩|⟨g,c,cur,o,rfl,_,hh,D,_⟩
      ·omega
      ·refine⟨_,_,λw=>run_indexAt A z w _ _ c k i l q,?_,a⟩
       simp only[den];exact⟨g,o,_,c,e1,by rw[add_eq,Y,m];simp⟩
     ·exact a.elim
    ·rename_i N e d j cs R
     split at a
     ·rename_i m
      obtain⟨l,q,a⟩:=a;have a:=a _ (Ua (show i.toNat<d.length by omega));obtain⟨v',xs,x1,vx,x2,f1,e1,f,Q⟩:=C.ent I _ G;have:=y.1.symm.trans e1;simp at this;subst this;rcases f.2 with⟨rfl,W⟩|⟨g,c,cur,o,rfl,_,hh,D,_⟩
      ·omega
      ·refine⟨_,_,λw=>run_indexAt A z w _ _ c k i l q,?_,a⟩
       simp only[den];exact⟨g,o,_,c,e1,by rw[add_eq,Y,m];simp⟩
     ·exact a.elim
    ·exact a.elim
   ·exact a.no.elim
   ·exact a.elim
  ·rename_i n U
   obtain⟨A,_,a0,z,Y,_,_⟩:=h.array U;split at a
   ·rename_i I O
    simp only[den]at y;obtain⟨b,q,rfl⟩:=y;have J:0<=i->i<(n:Int)->K (.ptr I (O+i.toNat*M.esize))->∃u r,ZoF P (Instr.indexAt T (.pointer (some ⟨b,O,none⟩)) (.int k i)) u/\den E r u/\K r:=by
     intro l f a;refine⟨_,_,λw=>Zod A z w _ k i l f,?_,a⟩;simp only[den];exact⟨b,q,by rw[add_eq,Y]⟩
    split at a
    ·rename_i j hj
     split at a
     ·rename_i a2
      have V:=X j hj k i rfl;subst V;exact J (by omega) (by omega) (by simpa using a)
     ·exact a.elim
    ·obtain⟨l,f,a⟩:=a
     exact J l f (ZpG I O M.esize n 0 i K a (by omega) (by omega))
   ·exact a.elim
  ·exact a.elim
 ·exact a.elim
end
def ZAn (a b:SV) (K:Bool->Prop):Prop :=
 match a,b with
 | .int k x,.int c y=>if k=c then K (decide (x=y))else False
 |_,_=>False
def ZAo (a b:SV) (K:Bool->Prop):Prop :=
 match a,b with
 | .str x,.str y=>K (decide (x=y))
 |_,_=>False
def Zyv (a b:SV) (K:Bool->Prop):Prop :=
 match a,b with
 | .bool x,.bool y=>K (x==y)
 | .bool x,.blit true=>K x
 | .blit true,.bool x=>K x
 | .bool x,.blit false=>K (!x)
 | .blit false,.bool x=>K (!x)
 | .blit x,.blit y=>K (x==y)
 |_,_=>False
def eqF:EqD->List SV->List SV->(Bool->Prop)->Prop
 | .nil,_,_,K=>K true
 | .int _ o r,xs,y,K=>ZmN xs o λa=>ZmN y o λb=>ZAn a b λp=>match r with
  | .nil=>K p
  |r=>eqF r xs y λq=>K (p&&q)
 | .bool o r,xs,y,K=>ZmN xs o λa=>ZmN y o λb=>Zyv a b λp=>match r with
  | .nil=>K p
  |r=>eqF r xs y λq=>K (p&&q)
 | .str o r,xs,y,K=>ZmN xs o λa=>ZmN y o λb=>ZAo a b λp=>match r with
  | .nil=>K p
  |r=>eqF r xs y λq=>K (p&&q)
 | .st o z s r,xs,y,K=>ZiC xs o λx=>Zo4 x z λX=>ZiC y o λY=>Zo4 Y z λc=>eqF s X c λp=>match r with
  | .nil=>K p
  |r=>eqF r xs y λq=>K (p&&q)
def EqD.depth:EqD->Nat
 | .nil=>0
 | .int _ _ r=>max 1 r.depth
 | .bool _ r=>max 1 r.depth
 | .str _ r=>max 1 r.depth
 | .st _ _ s r=>max (s.depth+1) r.depth
def eqK (op:BinOp) (t:TI) (x y:SV) (K:SV->Prop):Prop :=
 match x,y with
 | .agg xs,.agg s=>if t.eqd.isNil=true then False else if t.eqd.depth<=1000 then eqF t.eqd xs s λp=>match op with
  | .eql=>K (.bool p)
  | .neq=>K (.bool (!p))
  |_=>False else False
 |x,y=>match t.kind with
  | .bool=>Zyv x y λp=>match op with
   | .eql=>K (.bool p)
   | .neq=>K (.bool (!p))
   |_=>False
  |_=>False
section
variable {P:Program}
variable {t:TypeId} {d:TypeDesc} {o:Nat} {v:Value}
theorem Zeb (L:P.underlying t=some d) (m:ZhF d=false) {cs:Array Value} (a:cs[o]?=some v) (w:World):(part t cs o).run P w=.ok v w:=by
 have e:(isAgg t).run P w=.ok false w:=by
  unfold isAgg;rw[Sem.run_bind,run_underlying L];simp only[Result.andThen_ok,<-m];cases d<;>rfl
 rw[part,Sem.run_bind,e,Result.andThen_ok];simp[a]
theorem Zud (L:P.underlying t=some d) (m:ZhF d=true) {z:Nat} (q:(P.info? t).map (·.size)=some z) {u:List Value} (w:World) :
  (part t u.toArray o).run P w=.ok (.agg ((u.drop o).take z).toArray) w:=by
 have e:(isAgg t).run P w=.ok true w:=by
  unfold isAgg;rw[Sem.run_bind,run_underlying L];simp only[Result.andThen_ok,<-m];cases d<;>rfl
 obtain⟨i,l,Y⟩:=Ku.1 q;rw[part,Sem.run_bind,e,Result.andThen_ok,Uc rfl,Sem.run_bind,run_sizeOf l,Result.andThen_ok,Y];simp[List.extract_eq_take_drop]
variable {k:IntKind}
theorem ZiL (h:ZtO k (P.underlying t)=true):P.underlying t=some (.int k):=by
 unfold ZtO at h;split at h
 ·rename_i K a;rw[a];simp at h;rw[h]
 ·cases h
theorem ZlR (h:Zqh (P.underlying t)=true):P.underlying t=some .bool:=by
 unfold Zqh at h;split at h
 ·rename_i a;exact a
 ·cases h
theorem ZnU (h:ZtP (P.underlying t)=true):P.underlying t=some .string:=by
 unfold ZtP at h;split at h
 ·rename_i a;exact a
 ·cases h
variable {E:Env} {a b:SV} {u:Value} {K:Bool->Prop}
theorem Zyw (h:den E a u) (c:den E b v) (H:ZAn a b K) (r:P.underlying t=some (.int k)) :
  ∃p,K p/\∀m w,(Op.equalIn (m+1) t u v).run P w=.ok p w:=by
 unfold ZAn at H;split at H
 ·rename_i k1 x d y
  simp only[den]at h c;subst h;subst c;split at H
  ·rename_i e;subst e
   exact⟨_,H,λm w=>by rw[run_equalIn_int w m t k1 k x y r,Zbj]⟩
  ·exact H.elim
 ·exact H.elim
theorem Zyx (h:den E a u) (c:den E b v) (H:ZAo a b K) (r:P.underlying t=some .string) :
  ∃p,K p/\∀m w,(Op.equalIn (m+1) t u v).run P w=.ok p w:=by
 unfold ZAo at H;split at H
 ·simp only[den]at h c;subst h;subst c
  exact⟨_,H,λm w=>by rw[run_equalIn_string w m t _ _ r,ZgK,ZgK,Zbj]⟩
 ·exact H.elim
theorem ZtQ (h:den E a u) (c:den E b v) (H:Zyv a b K) :
  ∃x y,u=.bool x/\v=.bool y/\K (x==y):=by
 unfold Zyv at H;split at H<;>(try simp only[den]at h c)
 ·exact⟨_,_,h,c,H⟩
 ·exact⟨_,_,h,c,by simpa using H⟩
 ·exact⟨_,_,h,c,by simpa using H⟩
 ·exact⟨_,_,h,c,by simpa using H⟩
 ·exact⟨_,_,h,c,by simpa using H⟩
 ·exact⟨_,_,h,c,H⟩
 ·exact H.elim
variable {f:Field} {l:List Field} {p:Bool}
theorem ZdX {n:Nat} {xs y:Array Value} (W:f.name≠ "_") {a b:Value} {q:Bool} {w:World} (m:(part f.type xs f.offset).run P w=.ok a w)
  (h:(part f.type y f.offset).run P w=.ok b w) (e:(Op.equalIn n f.type a b).run P w=.ok p w) (E:(Op.eqFields n xs y l).run P w=.ok q w) :
  (Op.eqFields n xs y (f::l)).run P w=.ok (p&&q) w:=by
 rw[Op.eqFields,Uc W,Sem.run_bind,m,Result.andThen_ok,Sem.run_bind,h,Result.andThen_ok,Sem.run_bind,e,Result.andThen_ok];cases p
 ·simp
 ·simp[E]
theorem ZtC {r:EqD} (h:r.fits P l=true) {xs y:List SV} {u vs:List Value} (H:match (generalizing:=false) r with
  | .nil=>K p
  | r=>eqF r xs y λq=>K (p&&q))
  (i:∀{K:Bool->Prop},eqF r xs y K->∃p,K p/\∀n,r.depth<=n->∀w,(Op.eqFields n u.toArray vs.toArray l).run P w=.ok p w)
  {D:Nat} (d:r.depth<=D) (s:∀q n,D<=n->∀w,(Op.eqFields n u.toArray vs.toArray l).run P w=.ok q w->(Op.eqFields n u.toArray vs.toArray (f::l)).run P w=.ok (p&&q) w) :
  ∃p,K p/\∀n,D<=n->∀w,(Op.eqFields n u.toArray vs.toArray (f::l)).run P w=.ok p w:=by
 have g:(eqF r xs y λq=>K (p&&q))->∃p,K p/\∀n,D<=n->∀w,(Op.eqFields n u.toArray vs.toArray (f::l)).run P w=.ok p w:=by
  intro H;obtain⟨q,H,a⟩:=i H;exact⟨_,H,λn W w=>s q n W w (a n (by omega) w)⟩
 cases r with
 |nil =>
  simp only[EqD.fits,KZ]at h;subst h;exact⟨p,H,λn W w=>by have:=s true n W w rfl;simpa using this⟩
 |_=>exact g H
theorem Zpi {E:Env}:∀(d:EqD) (l:List Field),d.fits P l=true->∀(xs Y:List SV) (U vs:List Value),Yf E xs U->Yf E Y vs->∀{K:Bool->Prop},eqF d xs Y K->
  ∃p,K p/\∀n,d.depth<=n->∀w,(Op.eqFields n U.toArray vs.toArray l).run P w=.ok p w
 | .nil,l,c,xs,Y,U,vs,Z,e,K,H=>by
  simp only[EqD.fits,KZ]at c;subst c;exact⟨true,H,λn _ w=>rfl⟩
 | .int k o r,l,c,xs,Y,U,vs,Z,e,K,H=>by
  cases l with
  |nil=>simp[EqD.fits]at c
  |cons f l =>
   simp only[EqD.fits,Up,bne_iff_ne,Kb]at c;obtain⟨⟨⟨A,i⟩,g⟩,j⟩:=c;simp only[eqF]at H;obtain⟨a,u,z,s,H,_⟩:=ZbU _ _ Z H;obtain⟨b,v,F,t,H,_⟩:=ZbU _ _ e H;have h:=ZiL g;obtain⟨p,H,D⟩:=Zyw s t H h;refine ZtC j H (λH=>Zpi r l j xs Y U vs Z e H) (by simp only[EqD.depth];omega) (λq n W w B=>?_);simp only[EqD.depth]at W;obtain⟨m,rfl⟩:∃m,n=m+1:=⟨n-1,by omega⟩;exact ZdX A (Zeb h rfl (by rw[i];simpa using z) w) (Zeb h rfl (by rw[i];simpa using F) w) (D m w) B
 | .bool o r,l,c,xs,Y,U,vs,Z,e,K,H=>by
  cases l with
  |nil=>simp[EqD.fits]at c
  |cons f l =>
   simp only[EqD.fits,Up,bne_iff_ne,Kb]at c;obtain⟨⟨⟨A,i⟩,g⟩,j⟩:=c;simp only[eqF]at H;obtain⟨a,u,z,s,H,_⟩:=ZbU _ _ Z H;obtain⟨b,v,F,t,H,_⟩:=ZbU _ _ e H;have h:=ZlR g;obtain⟨x,y,rfl,rfl,H⟩:=ZtQ s t H;refine ZtC j H (λH=>Zpi r l j xs Y U vs Z e H) (by simp only[EqD.depth];omega) (λq n W w B=>?_);simp only[EqD.depth]at W;obtain⟨m,rfl⟩:∃m,n=m+1:=⟨n-1,by omega⟩;exact ZdX A (Zeb h rfl (by rw[i];simpa using z) w) (Zeb h rfl (by rw[i];simpa using F) w) (run_equalIn_bool' w m f.type x y h) B
 | .str o r,l,c,xs,Y,U,vs,Z,e,K,H=>by
  cases l with
  |nil=>simp[EqD.fits]at c
  |cons f l =>
   simp only[EqD.fits,Up,bne_iff_ne,Kb]at c;obtain⟨⟨⟨A,i⟩,g⟩,j⟩:=c;simp only[eqF]at H;obtain⟨a,u,z,s,H,_⟩:=ZbU _ _ Z H;obtain⟨b,v,F,t,H,_⟩:=ZbU _ _ e H;have h:=ZnU g;obtain⟨p,H,D⟩:=Zyx s t H h;refine ZtC j H (λH=>Zpi r l j xs Y U vs Z e H) (by simp only[EqD.depth];omega) (λq n W w B=>?_);simp only[EqD.depth]at W;obtain⟨m,rfl⟩:∃m,n=m+1:=⟨n-1,by omega⟩;exact ZdX A (Zeb h rfl (by rw[i];simpa using z) w) (Zeb h rfl (by rw[i];simpa using F) w) (D m w) B
 | .st o S L r,l,c,xs,Y,U,vs,Z,e,K,H=>by
  cases l with
  |nil=>simp[EqD.fits]at c
  |cons f l =>
   simp only[EqD.fits,Up,bne_iff_ne,Kb]at c;obtain⟨⟨⟨⟨A,i⟩,g⟩,J⟩,j⟩:=c;split at g
   ·rename_i gs z
    simp only[Up,UO]at g;obtain⟨g,M⟩:=g;simp only[eqF,Zcp,Zic]at H;have G:=Zgk _ _ (JL _ _ Z o) S;have I:=Zgk _ _ (JL _ _ e o) S;obtain⟨p,H,D⟩:=Zpi L gs.toList M _ _ _ _ G I H;refine ZtC j H (λH=>Zpi r l j xs Y U vs Z e H) (by simp only[EqD.depth];omega) (λq n W w B=>?_);simp only[EqD.depth]at W;obtain⟨m,rfl⟩:∃m,n=m+1:=⟨n-1,by omega⟩;have C:P.fieldsOf f.type=gs:=by simp[Program.fieldsOf,z]
    refine ZdX A (by rw[i];exact Zud z rfl J w) (by rw[i];exact Zud z rfl J w) ?_ B;rw[run_equalIn_struct w m f.type _ _ (by rw[C];exact z) g,C];exact D m (by omega) w
   ·cases g
variable {T:TypeId} {op:BinOp} {K:SV->Prop}
theorem Zv8 {t:TI} (h:Zdi P T t) {x y:SV} (H:eqK op t x y K) (g:den E x u) (i:den E y v) (o O:Operand) :
  ∃r s,(∀w,((do eqGuard op T o O u v;binOp op T u v:Sem Value)).run P w=.ok r w)/\den E s r/\K s:=by
 unfold eqK at H;split at H
 ·rename_i xs Y
  simp only[den]at g i;obtain⟨U,rfl,g⟩:=g;obtain⟨vs,rfl,i⟩:=i;split at H
  ·exact H.elim
  ·rename_i f
   split at H
   ·rename_i k
    have e:=h.eqd;simp only[f,Bool.false_or]at e;split at e
    ·rename_i F z
     simp only[Up,UO]at e;obtain⟨⟨e1,m⟩,j⟩:=e;obtain⟨p,H,q⟩:=Zpi t.eqd F.toList m xs Y U vs g i H;have C:P.fieldsOf T=F:=by simp[Program.fieldsOf,z]
     have l:∀w,(Op.equalIn 10000 T (.agg U.toArray) (.agg vs.toArray)).run P w=.ok p w:=by
      intro w;rw[show(10000:Nat)=9999+1 from rfl,run_equalIn_struct w 9999 T _ _ (by rw[C];exact z) e1,C];exact q 9999 (by omega) w
     cases op<;>first|exact H.elim|skip
     ·exact⟨_,_,λw=>by rw[Sem.run_bind,run_eqGuard_agg w .eql T o O _ _ j,Result.andThen_ok,run_eql_struct w T,l w,Result.andThen_ok],JK ..,H⟩
     ·exact⟨_,_,λw=>by rw[Sem.run_bind,run_eqGuard_agg w .neq T o O _ _ j,Result.andThen_ok,run_neq_struct w T,l w,Result.andThen_ok],JK ..,H⟩
    ·cases e
   ·exact H.elim
 ·split at H
  ·rename_i n
   obtain⟨a,b,rfl,rfl,H⟩:=ZtQ g i H;have z:P.underlying T=some .bool:=by
    obtain⟨d,L,c⟩:=h.get;rw[n]at c;cases d<;>simp[Zvq]at c
    exact L
   have l:∀w,(Op.equal T (.bool a) (.bool b)).run P w=.ok (a==b) w:=λw=>run_equalIn_bool' w 9999 T a b z;cases op<;>first|exact H.elim|skip
   ·exact⟨_,_,λw=>by simp only[eqGuard,binOp,Sem.run_bind,l];rfl,JK ..,H⟩
   ·exact⟨_,_,λw=>by simp only[eqGuard,binOp,Sem.run_bind,l];rfl,JK ..,H⟩
  ·exact H.elim
def ZkS (op:BinOp) (b n:SV) (K:SV->Prop):Prop :=
 match op with
 | .eql=>K b
 | .neq=>K n
 |_=>False
def ZjD:TK->Bool
 | .ptr=>true
 |_=>false
def Zrv:TK->Bool
 | .sl=>true
 |_=>false
def ZDu (op:BinOp) (t:TI) (x:SV) (K:SV->Prop):Prop :=
 match x with
 | .nptr _ d=>if ZjD t.kind=true then ZkS op (.bool d.isNone) (.bool (!d.isNone)) K else False
 | .ptr _ _=>if ZjD t.kind=true then ZkS op (.blit false) (.blit true) K else False
 | .fptr _=>if ZjD t.kind=true then ZkS op (.blit false) (.blit true) K else False
 | .nilp=>if ZjD t.kind=true then ZkS op (.blit true) (.blit false) K else False
 | .nsl=>if Zrv t.kind=true then ZkS op (.blit true) (.blit false) K else False
 | .sl _ d=>if Zrv t.kind=true then(d=[]->ZkS op (.blit true) (.blit false) K)/\ZkS op (.blit false) (.blit true) K else False
 |_=>False
theorem ZdN {b:Bool} (W:∀w,(Op.equal T u v).run P w=.ok b w) (e:(∃p,u=.pointer p)\/∃a n c,u=.slice a n c) (o O:Operand) {S N:SV}
  (d:den E S (.bool b)) (h:den E N (.bool (!b))) (H:ZkS op S N K) :
  ∃r s,(∀w,((do eqGuard op T o O u v;binOp op T u v:Sem Value)).run P w=.ok r w)/\den E s r/\K s:=by
 unfold ZkS at H;rcases e with⟨p,rfl⟩|⟨a,n,c,rfl⟩
 ·split at H
  ·exact⟨_,_,λw=>by simp only[eqGuard,binOp,Sem.run_bind,W];rfl,d,H⟩
  ·exact⟨_,_,λw=>by simp only[eqGuard,binOp,Sem.run_bind,W];rfl,h,H⟩
  ·exact H.elim
 ·split at H
  ·exact⟨_,_,λw=>by simp only[eqGuard,binOp,Sem.run_bind,W];rfl,d,H⟩
  ·exact⟨_,_,λw=>by simp only[eqGuard,binOp,Sem.run_bind,W];rfl,h,H⟩
  ·exact H.elim
theorem Zed {e:TypeId} (h:P.underlying T=some (.pointer e)) (p:Option Addr) (w:World):(Op.equal T (.pointer p) (.pointer none)).run P w=.ok p.isNone w:=by
 show(Op.equalIn (9999+1) T (.pointer p) (.pointer none)).run P w=_;unfold Op.equalIn;rw[Sem.run_bind,run_underlying h,Result.andThen_ok];cases p<;>rfl
theorem ZiZ {e:TypeId} (h:P.underlying T=some (.slice e)) (a:Option Addr) (n c:Nat) (w:World):(Op.equal T (.slice a n c) (.slice none 0 0)).run P w=.ok a.isNone w:=by
 show(Op.equalIn (9999+1) T (.slice a n c) (.slice none 0 0)).run P w=_;unfold Op.equalIn;rw[Sem.run_bind,run_underlying h,Result.andThen_ok];cases a<;>rfl
theorem ZwP {i:TI} (h:Zdi P T i) {x y:SV} (A:y=.nilp\/y=.nsl) (H:ZDu op i x K) (j:(ZjD i.kind=true->y=.nilp)/\(Zrv i.kind=true->y=.nsl)) (c:den E x u) (n:den E y v) (o O:Operand) :
  ∃r s,(∀w,((do eqGuard op T o O u v;binOp op T u v:Sem Value)).run P w=.ok r w)/\den E s r/\K s:=by
 have k:ZjD i.kind=true->(∃e,P.underlying T=some (.pointer e))/\v=.pointer none:=by
  intro q;obtain⟨d,L,f⟩:=h.get;refine⟨?_,?_⟩
  ·cases d<;>simp[Zvq]at f<;>rw[<-f]at q<;>simp[ZjD]at q
   exact⟨_,L⟩
  ·have:=j.1 q
   subst this;simpa only[den]using n
 have m:Zrv i.kind=true->(∃e,P.underlying T=some (.slice e))/\v=.slice none 0 0:=by
  intro q;obtain⟨d,L,f⟩:=h.get;refine⟨?_,?_⟩
  ·cases d<;>simp[Zvq]at f<;>rw[<-f]at q<;>simp[Zrv]at q
   exact⟨_,L⟩
  ·have:=j.2 q
   subst this;simpa only[den]using n
 unfold ZDu at H;split at H
 ·rename_i t d
  split at H
  ·rename_i q
   obtain⟨⟨e,z⟩,rfl⟩:=k q;simp only[den]at c;rcases c with⟨rfl,g⟩|⟨x,p,xs,rfl,g,_⟩
   ·simp at g;subst g
    exact ZdN (Zed z none) (.inl ⟨_,rfl⟩) o O (JK ..) (JK ..) H
   ·simp at g;subst g
    exact ZdN (Zed z (some p)) (.inl ⟨_,rfl⟩) o O (JK ..) (JK ..) H
  ·exact H.elim
 ·split at H
  ·rename_i q
   obtain⟨⟨e,z⟩,rfl⟩:=k q;simp only[den]at c;obtain⟨b,_,rfl⟩:=c;exact ZdN (Zed z (some _)) (.inl ⟨_,rfl⟩) o O (by simp only[den];rfl) (by simp only[den];rfl) H
  ·exact H.elim
 ·split at H
  ·rename_i q
   obtain⟨⟨e,z⟩,rfl⟩:=k q;simp only[den]at c;obtain⟨p,xs,rfl,_⟩:=c;exact ZdN (Zed z (some _)) (.inl ⟨_,rfl⟩) o O (by simp only[den];rfl) (by simp only[den];rfl) H
  ·exact H.elim
 ·split at H
  ·rename_i q
   obtain⟨⟨e,z⟩,rfl⟩:=k q;simp only[den]at c;subst c;exact ZdN (Zed z none) (.inl ⟨_,rfl⟩) o O (by simp only[den];rfl) (by simp only[den];rfl) H
  ·exact H.elim
 ·split at H
  ·rename_i q
   obtain⟨⟨e,z⟩,rfl⟩:=m q;simp only[den]at c;subst c;exact ZdN (ZiZ z none 0 0) (.inr ⟨_,_,_,rfl⟩) o O (by simp only[den];rfl) (by simp only[den];rfl) H
  ·exact H.elim
 ·rename_i t d
  split at H
  ·rename_i q
   obtain⟨⟨e,z⟩,rfl⟩:=m q;simp only[den]at c;obtain⟨a,C,e1,_,W,l⟩:=c;simp at e1;subst e1;cases a with
   |none =>
    have L:d=[]:=by
     rcases l with l|⟨p,xs,e,_⟩
     ·exact l
     ·cases e
    exact ZdN (ZiZ z none _ _) (.inr ⟨_,_,_,rfl⟩) o O (by simp only[den];rfl) (by simp only[den];rfl) (H.1 L)
   |some a=>exact ZdN (ZiZ z (some a) _ _) (.inr ⟨_,_,_,rfl⟩) o O (by simp only[den];rfl) (by simp only[den];rfl) H.2
  ·exact H.elim
 ·exact H.elim
end
section
variable {P:Program}
def Zpv (cells:List SV) (H:List Entry) (K:SV->List Entry->Prop):Prop :=
 Zsg H 0 λn=>ZpT H [.box cells] λH'=>K (.ptr n 0) H'
variable {B:Base} {E:Env} {H:List Entry} {K:SV->List Entry->Prop}
theorem ZrD (m:Inv B E H) {cells:List SV} (k:Zpv cells H K) (cs:Array Value) (T:TypeId) (L:Yf E cells cs.toList) :
  ∃E' H' s,E'.w=E.w.alloc (.cells cs T)/\Inv B E' H'/\E.le E'/\den E' s (.pointer (some ⟨E.w.heap.size,0,none⟩))/\K s H':=by
 unfold Zpv at k;rw[Zb7,ZaQ,Uw]at k;have e:=ZpS m (.cells cs T) (.pointer (some ⟨E.w.heap.size,0,none⟩));have h:(E.ids++[Value.pointer (some ⟨E.w.heap.size,0,none⟩)])[H.length]?=some (.pointer (some ⟨E.w.heap.size,0,none⟩)):=by
  rw[<-m.len];simp
 refine⟨⟨E.S,E.w.alloc (.cells cs T),E.ids++[.pointer (some ⟨E.w.heap.size,0,none⟩)]⟩,_,_,rfl,m.alloc (.cells cs T) _ _ rfl ?_,e,?_,k⟩
 ·exact⟨_,cs,T,h,Go.heap_alloc_new _ _,ZO e _ _ L⟩
 ·simp only[den]
  exact⟨_,h,rfl⟩
variable (w:World)
theorem Zcr (o:Obj):Grow w (w.alloc o):=λb h=>Go.heap_alloc_old w o h
def Zzo (t:TI) (H:List Entry) (K:SV->List Entry->Prop):Prop:=ZoC t.zero λcells=>Zpv cells H K
variable {T:TypeId} {t:TI}
theorem Zvy (m:Inv B E H) (h:Zdi P T t) (k:Zzo t H K) :
  ∃u E' H' s,(Instr.alloc T true (.tuple #[])).run P E.w=.ok u E'.w/\Inv B E' H'/\E.le E'/\den E' s u/\K s H'/\Grow E.w E'.w:=by
 obtain⟨l,L,k⟩:=Zf9 E _ _ k;obtain⟨i,b,_,_,S⟩:=h.info';obtain⟨E',H',s,c,d,f,g,a⟩:=ZrD m k t.zero.cells T L;refine⟨_,E',H',s,?_,d,f,g,a,by rw[c];exact Zcr _ _⟩;rw[c];simp[Instr.alloc,zeroValue,typeInfo,b,S,newVar,newRow]
def ZDG (s:SV) (H:List Entry) (K:SV->List Entry->Prop):Prop:=if s.whole=true then Zpv s.cells H K else False
variable {v:Value}
theorem ZzU (m:Inv B E H) {s:SV} (q:den E s v) (k:ZDG s H K) :
  ∃u E' H' r,(Instr.box T v).run P E.w=.ok u E'.w/\Inv B E' H'/\E.le E'/\den E' r u/\K r H'/\Grow E.w E'.w:=by
 unfold ZDG at k;split at k
 ·rename_i c
  obtain⟨E',H',r,h,d,f,g,i⟩:=ZrD m k v.cells T (JJ q c);refine⟨_,E',H',r,?_,d,f,g,i,by rw[h];exact Zcr _ _⟩;rw[h];simp[Instr.box,newVar,newRow]
 ·exact k.elim
def VD:List SV->List Entry->(List SV->List Entry->Prop)->Prop
 |[],H,K=>K [] H
 |s::r,H,K=>match s with
  | .own I=>ZgN H I λe=>match e with
   | .arr _ t d=>ZhD H I (.frz t d) λH'=>VD r H' λR H''=>K (.sl t d::R) H''
   | .darr _ e d _=>ZhD H I (.frz e.ty d) λH'=>VD r H' λR H''=>K (.sl e.ty d::R) H''
   | .frz t d=>VD r H λR H'=>K (.sl t d::R) H'
   |_=>False
  | .mown I=>ZgN H I λe=>match e with
   | .mpe k v d=>ZhD H I (.frm k v d) λH'=>VD r H' λR H''=>K (.mp k v d::R) H''
   | .frm k v d=>VD r H λR H'=>K (.mp k v d::R) H'
   |_=>False
  |s=>VD r H λR H'=>K (s::R) H'
theorem Qw {B:Base}:∀(cs:List SV) {E:Env} {H:List Entry} (_:Inv B E H) {vs:List Value} (_:Yf E cs vs) {K:List SV->List Entry->Prop} (_:VD cs H K),
  ∃E' H' C,Frz E H E' H'/\Inv B E' H'/\Yf E' C vs/\K C H'/\∀(i:Nat) (c:List SV),H[i]?=some (.box c)->H'[i]?=some (.box c)
 |[],E,H,z,vs,L,K,a=>⟨E,H,[],Frz.refl E H,z,L,a,λ_ _ h=>h⟩
 |s::r,E,H,z,vs,L,K,a=>by
  match vs,L with
  |[],L=>simp[Yf]at L
  |v::vs,L =>
   simp only[Yf]at L;have O:(VD r H λR H'=>K (s::R) H')->∃E' H' C,Frz E H E' H'/\Inv B E' H'/\Yf E' C (v::vs)/\K C H'/\∀(i:Nat) (c:List SV),H[i]?=some (.box c)->H'[i]?=some (.box c):=by
    intro a;obtain⟨E',H',C,b,m,n,o,p⟩:=Qw r z L.2 a;exact⟨E',H',s::C,b,m,⟨ZgL b.le s v L.1,n⟩,o,p⟩
   cases s with
   |own k =>
    simp only[VD]at a;obtain⟨e,l,a⟩:=Y0 H a;have m:=L.1;simp only[den]at m;have G:k<H.length:=(Ub.1 l).1;split at a
    ·rename_i I t d
     rw[Xu]at a;obtain⟨S',j,q,D,u⟩:=z.freeze l m.1;have x:Frz E H ⟨S',E.w,E.ids⟩ (H.set k (.frz t d)):=Frz.one l rfl m.1 rfl j u;obtain⟨E',H',C,b,f,n,o,p⟩:=Qw r q (ZO j _ _ L.2) a;refine⟨E',H',.sl t d::C,x.trans b,f,⟨by simp only[den];exact Yo b.le.S b.le.w (.sl t) d [v] D,n⟩,o,λi c y=>p i c ?_⟩;by_cases g:k=i
     ·subst g;rw[l]at y;simp at y
     ·rw[UH g];exact y
    ·rename_i I e d J
     rw[Xu]at a;obtain⟨S',j,q,D,u⟩:=z.ZAd l m.1;have x:Frz E H ⟨S',E.w,E.ids⟩ (H.set k (.frz e.ty d)):=Frz.one l rfl m.1 rfl j u;obtain⟨E',H',C,b,f,n,o,p⟩:=Qw r q (ZO j _ _ L.2) a;refine⟨E',H',.sl e.ty d::C,x.trans b,f,⟨by simp only[den];exact Yo b.le.S b.le.w (.sl e.ty) d [v] D,n⟩,o,λi c y=>p i c ?_⟩;by_cases g:k=i
     ·subst g;rw[l]at y;simp at y
     ·rw[UH g];exact y
    ·rename_i t d
     obtain⟨v',e1,F⟩:=z.ent k _ l;have:=m.1.symm.trans e1;simp at this;subst this;obtain⟨E',H',C,b,f,n,o,p⟩:=Qw r z L.2 a;exact⟨E',H',.sl t d::C,b,f,⟨by simp only[den];exact Yo b.le.S b.le.w (.sl t) d [v] F,n⟩,o,p⟩
    ·exact a.elim
   |mown k =>
    simp only[VD]at a;obtain⟨e,l,a⟩:=Y0 H a;have m:=L.1;simp only[den]at m;have G:k<H.length:=(Ub.1 l).1;split at a
    ·rename_i A V d
     rw[Xu]at a;obtain⟨S',j,q,D,u⟩:=z.ZAe l m.1;have x:Frz E H ⟨S',E.w,E.ids⟩ (H.set k (.frm A V d)):=Frz.one l rfl m.1 rfl j u;obtain⟨E',H',C,b,f,n,o,p⟩:=Qw r q (ZO j _ _ L.2) a;refine⟨E',H',.mp A V d::C,x.trans b,f,⟨by simp only[den];exact Yo b.le.S b.le.w (.mp A V) d [v] D,n⟩,o,λi c y=>p i c ?_⟩;by_cases g:k=i
     ·subst g;rw[l]at y;simp at y
     ·rw[UH g];exact y
    ·rename_i A V d
     obtain⟨v',e1,F⟩:=z.ent k _ l;have:=m.1.symm.trans e1;simp at this;subst this;obtain⟨E',H',C,b,f,n,o,p⟩:=Qw r z L.2 a;exact⟨E',H',.mp A V d::C,b,f,⟨by simp only[den];exact Yo b.le.S b.le.w (.mp A V) d [v] F,n⟩,o,p⟩
    ·exact a.elim
   |_=>exact O (by simpa only[VD]using a)
variable {vs:List Value}
theorem ZnF (cs:List SV) (m:Inv B E H) (L:Yf E cs vs) {K:List SV->List Entry->Prop} (h:VD cs H K) :
  ∃E' H' C,E'.w=E.w/\E'.ids=E.ids/\Inv B E' H'/\E.le E'/\Yf E' C vs/\K C H':=by
 obtain⟨E',H',C,k,d,f,g,_⟩:=Qw cs m L h;exact⟨E',H',C,k.w,k.ids,d,k.le,f,g⟩
theorem Zqz {S:Nat->Prop} {w:World}:∀(t:Ty) (d:t.den) (vs:List Value),rep S w t d vs->∀u∈vs,u.oneCell'=true
 | .int _,_,_,h,u,H=>by cases h;simp at H;subst H;rfl
 | .bool,_,_,h,u,H=>by cases h;simp at H;subst H;rfl
 | .str,_,_,h,u,H=>by cases h;simp at H;subst H;rfl
 | .unit,_,_,h,u,H=>by cases h;simp at H
 | .pair a b,_,_,⟨v1,v,e,m,f⟩,u,H=>by
   subst e;rcases Uu.1 H with H|H
   ·exact Zqz a _ _ m u H
   ·exact Zqz b _ _ f u H
 | .sl _,_,_,⟨a,c,e,_⟩,u,H=>by subst e;simp at H;subst H;rfl
 | .ptr _,_,_,⟨_,_,e,_⟩,u,H=>by subst e;simp at H;subst H;rfl
 | .fn _ _,_,_,⟨_,e,_⟩,u,H=>by subst e;simp at H;subst H;rfl
 | .mp _ _,_,_,.inl ⟨_,e⟩,u,H=>by subst e;simp at H;subst H;rfl
 | .mp _ _,_,_,.inr ⟨_,_,_,e,_⟩,u,H=>by subst e;simp at H;subst H;rfl
 | .nptr _,_,_,.inl ⟨_,e⟩,u,H=>by subst e;simp at H;subst H;rfl
 | .nptr _,_,_,.inr ⟨_,_,_,_,e,_⟩,u,H=>by subst e;simp at H;subst H;rfl
theorem Zl6 {t:Ty} {S:Nat->Prop} {w:World}:∀(l:List t.den) (xs:List Value),QH (rep S w t) l xs->∀u∈xs,u.oneCell'=true
 |[],_,e,u,a=>by cases e;simp at a
 |d::l,_,⟨v1,v,e,r,s⟩,u,a=>by
   subst e;rcases Uu.1 a with a|a
   ·exact Zqz t d v1 r u a
   ·exact Zl6 l v s u a
theorem Zfa (g:Nat) (cs:Array Value):w.grownBy (w.setRow g cs) (some g) :=
 ⟨rfl,rfl,rfl,by simp[World.setRow],λk _ H=>setRow_other w g k cs (λe=>H (by rw[e]))⟩
theorem Zh3 (h:Zdi P T t) (w:World) (g o:Nat) (v:Value) (cur:Array Value) (E:TypeId) (a:w.heap[g]?=some (.cells cur E (0,0)))
  (Y:v.cells.size=t.size) (b:o+t.size<=cur.size) (d:∀u∈v.cells.toList,u.oneCell'=true) :
  (Instr.storeAt T (.pointer (some ⟨g,o,none⟩)) v).run P w=.ok () (w.setRow g (cur.toList.take o++v.cells.toList++cur.toList.drop (o+t.size)).toArray):=by
 obtain⟨i,l,q,_⟩:=h.info';have hst:=run_storeCells_at P g o E v.cells.toList 0 cur w a (by simp[Y];exact b) d;simp only[Instr.storeAt,Instr.sureAddr,pure_bind,storeVar];rw[Sem.run_bind,run_sizeOf l,Result.andThen_ok,q];simp only[ne_eq,Y,not_true_eq_false,Uj];rw[hst];simp[Y]
def Zo9 (cs:List SV) (n:Nat):Bool:=cs.length==n
def Zkh {α:Type} (d:List α) (o:Nat) (new:List α) (K:List α->Prop):Prop :=
 Zo4 d o λa=>Zsg new 0 λn=>ZiC d (o+n) λc=>ZpT new c λb=>ZpT a b K
theorem ZhB {α:Type} (d:List α) (o:Nat) (new:List α) (K:List α->Prop):Zkh d o new K=K (d.take o++(new++d.drop (o+new.length))):=by
 simp[Zkh,Zic,Zb7,Zcp,ZaQ]
theorem Zgj {cs:List SV} (h:Yf E cs vs) {d:List SV} {u:List Value} (H:Yf E d u) (o:Nat) :
  Yf E (cs.take o++(d++cs.drop (o+d.length))) (vs.take o++u++vs.drop (o+u.length)):=by
 rw[Un,YG _ _ H];exact ZaS _ _ (Zgk _ _ h o) _ _ (ZaS _ _ H _ _ (JL _ _ h _))
def Zuo (T:TI) (s sx:SV) (H:List Entry) (K:List Entry->Prop):Prop :=
 if(sx.whole&&Zpa sx.cells&&Zo9 sx.cells T.size)=true then
  match s with
  | .ptr I o=>ZgN H I λe=>match e with
   | .box O=>if o+T.size<=O.length then Zkh O o sx.cells λnew=>ZhD H I (.box new) K else False
   |_=>False
  | .oep I z i o=>VD sx.cells H λcs H'=>ZgN H' I λe=>match e with
   | .arr c t d=>t.size=z/\o+T.size<=t.size/\Zjj d i λx=>Vv t x λO=>Zkh O o cs λnew=>X0 t new λy _=>ZhD H' I (.arr c t (d.set i.toNat y)) K
   |_=>False
  |_=>False
 else False
variable {t:Nat}
theorem ZuX (l vs:List Value) (N i o:Nat) (h:N<=l.length) (H:i*t+t<=N) (a:o+vs.length<=t) :
  (l.take (i*t+o)++vs++l.drop (i*t+o+vs.length)).take N =
   (l.take N).take (i*t)++(((l.take N).drop (i*t)).take t |>.take o |> (·++vs++(((l.take N).drop (i*t)).take t).drop (o+vs.length)))++(l.take N).drop (i*t+t):=by
 generalize i*t=A at *;apply UI;intro j;simp only[List.getElem?_append,UB,Km,Uo,Uh,US];have e1:min (A+o) l.length=A+o:=by omega
 have f:min A (min N l.length)=A:=by omega
 have e:min N l.length=N:=by omega
 have E:min t (N-A)=t:=by omega
 have g:min o t=o:=by omega
 simp only[e1,f,e,E,g];repeat' split
 all_goals first
  |rfl
  |(exfalso;omega)
  |(congr 1;omega)
  |(symm;apply Uv;omega)
  |(apply Uv;omega)
theorem ZhX (l vs:List Value) (o N i f:Nat) (n:o+N<=l.length) (h:i*t+t<=N) (H:f+vs.length<=t) :
  ((l.take (o+(i*t+f))++vs++l.drop (o+(i*t+f)+vs.length)).drop o).take N =
   ((l.drop o).take N).take (i*t)++((((l.drop o).take N).drop (i*t)).take t |>.take f |> (·++vs++((((l.drop o).take N).drop (i*t)).take t).drop (f+vs.length)))++((l.drop o).take N).drop (i*t+t):=by
 rw[<-ZuX (l.drop o) vs N i f (by rw[US];omega) h H];congr 1;rw[List.take_add,Un,Un,List.drop_append_of_le_length (by rw[Uo];omega),List.drop_eq_nil_of_le (by rw[Uo];omega),Uq,Un,List.drop_drop,Nat.add_assoc]
theorem Zr9 (V:Inv B E H) {R:TI} (h:Zdi P T R) {sa sx:SV} {va:Value} (ha:den E sa va) (hx:den E sx v)
  {K:List Entry->Prop} (k:Zuo R sa sx H K) :
  ∃E' H',(Instr.storeAt T va v).run P E.w=.ok () E'.w/\Inv B E' H'/\E.le E'/\K H'/\E.w.grownBy E'.w (Yv va):=by
 unfold Zuo at k;split at k
 ·rename_i hc
  simp only[Up,Zo9,Kb]at hc;obtain⟨⟨hw,h1⟩,I⟩:=hc;have C:=JJ hx hw;have hl:=YG _ _ C;have J:=ZgI _ _ C h1;have a7:v.cells.size=R.size:=by rw[<-Ux,<-hl,I]
  have a:v.cells.toList.length=R.size:=by rw[<-hl,I]
  split at k
  ·rename_i U f
   obtain⟨e,M,k⟩:=Y0 H k;split at k
   ·rename_i d9
    split at k
    ·rename_i Y
     rw[ZhB,Xu]at k;simp only[den]at ha;obtain⟨b,e1,rfl⟩:=ha;obtain⟨b',cs,T',e2,e3,e4⟩:=V.ent U _ M;have:=e1.symm.trans e2;simp at this;subst this;have d1:=YG _ _ e4;have m:=Zh3 h E.w b f v cs T' e3 a7 (by rw[<-Ux,<-d1];exact Y) J;have N:=Zfa E.w b (cs.toList.take f++v.cells.toList++cs.toList.drop (f+R.size)).toArray;have j:=ZdY N V.Slt (λg e=>by simp at e;subst e;exact(V.free U _ _ _ M rfl e1 rfl).1);refine⟨⟨E.S,_,E.ids⟩,_,m,V.write M rfl e1 N _ ?_,j,k,N⟩;refine⟨b,_,T',e1,setRow_heap E.w b cs _ T' (0,0) e3,?_⟩;have:=Zgj (ZO j _ _ e4) (ZO j _ _ C) f;rw[a]at this;simpa using this
    ·exact k.elim
   ·exact k.elim
  ·rename_i U sz i f
   obtain⟨E1,H1,d6,F,Z,A,a2,b4,k⟩:=ZnF _ V C k;obtain⟨e,M,k⟩:=Y0 H1 k;split at k
   ·rename_i et t d
    obtain⟨d2,d8,d7,d5,k⟩:=k;have l:i.toNat<d.length:=by omega
    obtain⟨x,a9⟩:∃x,d[i.toNat]?=some x:=⟨_,Ua l⟩;have k:=k x a9;simp only[Qg,ZhB]at k;simp only[den]at ha;obtain⟨b,u,n,c,e1,rfl⟩:=ha;have z:E1.ids[U]?=some (.slice (some ⟨b,u,none⟩) n c):=by rw[Z];exact e1
    obtain⟨v',xs,e2,a4,s⟩:=A.ent U _ M;have:=z.symm.trans e2;simp at this;subst this;rcases a4.2 with⟨hv,_⟩|⟨g,b0,cur,o,hv,b6,hh,G,b9,X,O⟩
    ·simp at hv
    ·simp only[Value.slice.injEq,Option.some.injEq,Addr.mk.injEq,and_true]at hv
     obtain⟨⟨b1,b2⟩,d0,b3⟩:=hv;subst b1;subst b2;rw[<-d2];rw[F]at hh;have L:cur.toList.length=cur.size:=Ux;have W:u+d.length*t.size<=cur.toList.length:=by
      rw[L];exact Kg (Nat.add_le_add_left (U2 _ G) _) X
     have b7:i.toNat*t.size+t.size<=d.length*t.size:=by
      rw[<-U4];exact U2 _ l
     have m:=Zh3 h E.w b (u+(i.toNat*t.size+f)) v cur et hh a7 (by rw[<-L];omega) J;have N:=Zfa E1.w b (cur.toList.take (u+(i.toNat*t.size+f))++v.cells.toList++cur.toList.drop (u+(i.toNat*t.size+f)+R.size)).toArray;have j:=ZdY N A.Slt (λg e=>by simp at e;subst e;exact(A.free U _ _ _ M rfl z rfl).1);have p:=Zj8 (λd vs=>X3 t d vs) _ _ s i.toNat;have b5:d.drop i.toNat=x::d.drop (i.toNat+1):=by
      rw[List.drop_eq_getElem_cons l];have:=Ua l;rw[a9]at this;simp at this;rw[this]
     rw[b5]at p;obtain⟨v1,v2,a8,a5,_⟩:=p;have a1:=X3 t x v1 a5;have d3:v1=(xs.drop (i.toNat*t.size)).take t.size:=by rw[a8,<-a1];simp
     have a3:=Zgj (ZO j _ _ (XB t x v1 a5)) (ZO j _ _ b4) f;obtain⟨y,r,w1,w2,Q,a6,_,a0⟩:=XD t _ _ _ a3 k;rw[Xu]at a0;have b8:=X3 t y w1 a6;have d4:w2=[]:=by
      have:=Ka List.length Q;simp only[Uh,Uo,US,a1,b8,a]at this;apply UC;omega
     subst d4;rw[Um]at Q;refine⟨⟨E1.S,E1.w.setRow b _,E1.ids⟩,_,?_,A.write M rfl z N _ ?_,a2.trans j,a0,by rw[<-F];exact N⟩
     ·rw[F];exact m
     ·have D:=VN (R':=rep E1.S (E1.w.setRow b (cur.toList.take (u+(i.toNat*t.size+f))++v.cells.toList++cur.toList.drop (u+(i.toNat*t.size+f)+R.size)).toArray) t) (λd vs=>Yo j.S j.w t d vs) _ _ s
      have q:=Zpz (λd vs=>X3 t d vs) _ _ D i.toNat y w1 l a6;refine⟨_,_,z,⟨?_,.inr ⟨b,b0,_,u,?_,b6,setRow_heap E1.w b cur _ et (0,0) (by rw[F];exact hh),by simpa using G,b9,?_,rfl⟩⟩,?_⟩
      ·rw[Uo,KI,UZ]
       simp only[Uh,Uo,US,a];omega
      ·rw[UZ,d0,b3]
      ·rw[U6]
       simp only[Uh,Uo,US,a];rw[<-L]at X;omega
      ·rw[UZ]
       have hsp:=ZhX (t:=t.size) cur.toList v.cells.toList u (d.length*t.size) i.toNat f W b7 (by rw[a];omega);rw[a]at hsp;rw[KI,hsp,O,<-d3];rw[<-a]at q ⊢;rw[<-Q]at q;exact q
   ·exact k.elim
  ·exact k.elim
 ·exact k.elim
end
section
variable {P:Program}
def Zue (R:List SV):List (Nat×Operand)->(List (Nat×SV)->Prop)->Prop
 |[],K=>K []
 |(i,x)::r,K=>JE R x λs=>Zue R r λl=>K ((i,s)::l)
def Zjz (E:Env):List (Nat×SV)->List (Nat×Value)->Prop
 |[],[]=>True
 |(i,s)::r,(j,v)::q=>i=j/\den E s v/\Zjz E r q
 |_,_=>False
theorem Zn5 {E:Env} {R:List SV} {a:Act} (L:Yf E R a.tmps.toList):∀(p:List (Nat×Operand)) {K:List (Nat×SV)->Prop},Zue R p K->
  ∃l,Zjz E l (p.map λx=>(x.1,a.eval x.2))/\K l
 |[],K,h=>⟨[],trivial,h⟩
 |(i,x)::r,K,h=>by
  obtain⟨s,H,h⟩:=Yr L h;obtain⟨l,q,h⟩:=Zn5 L r h;exact⟨(i,s)::l,⟨rfl,H,q⟩,h⟩
def Zsw (place:Nat->(Nat->Nat->Prop)->Prop):List SV->List (Nat×SV)->(List SV->Prop)->Prop
 |z,[],K=>K z
 |z,(i,s)::r,K=>place i λo S=>if s.whole=true/\s.cells.length=S/\o+S<=z.length then Zkh z o s.cells λZ=>Zsw place Z r K else False
theorem Zwl (cs:Array Value) (o:Nat) (v:Value) (h:o+v.cells.size<=cs.size) :
  (v.cells.zipIdx.foldl (λcs (x:Value×Nat)=>cs.setIfInBounds (o+x.2) x.1) cs).toList=cs.toList.take o++v.cells.toList++cs.toList.drop (o+v.cells.size):=by
 have l:v.cells.zipIdx.foldl (λcs (x:Value×Nat)=>cs.setIfInBounds (o+x.2) x.1) cs=(v.cells.toList.zipIdx 0).foldl (λcs (x:Value×Nat)=>cs.setIfInBounds (o+x.2) x.1) cs:=by
  rw[<-Array.foldl_toList,Array.toList_zipIdx]
 rw[l];obtain⟨d,f⟩:=Great.foldl_set o v.cells.toList 0 cs;apply UI;intro k;rw[Kh,f k];simp only[List.getElem?_append,UB,Km,Uo,Uh,Ux,Kt,Kh];have e1:min o cs.size=o:=by omega
 simp only[e1];by_cases a1:k<o
 ·have:¬(o<=k/\k<o+v.cells.size/\k<cs.size):=by omega
  have a:k<o+v.cells.size:=by omega
  rw[Ue this,Uc a,Uc a1,Uc a1]
 ·by_cases a:k<o+v.cells.size
  ·have:(o<=k/\k<o+v.cells.size/\k<cs.size):=by omega
   simp[this,a1,a]
  ·have:¬(o<=k/\k<o+v.cells.size/\k<cs.size):=by omega
   have e:o+v.cells.size+(k-(o+v.cells.size))=k:=by omega
   simp[this,a1,a,e]
theorem ZkF {E:Env} (place:Nat->(Nat->Nat->Prop)->Prop) (p:Nat->Option (Nat×Nat)) (m:∀i K,place i K->∃o s,p i=some (o,s)/\K o s) :
  ∀(P:List (Nat×SV)) (Q:List (Nat×Value)),Zjz E P Q->∀(z:List SV) (cs:Array Value) {K:List SV->Prop},Yf E z cs.toList->Zsw place z P K->
   ∃Z C,Instr.fill p cs Q=some C/\Yf E Z C.toList/\K Z
 |[],[],_,z,cs,K,S,h=>⟨z,cs,rfl,S,h⟩
 |(i,s)::r,(j,v)::q,L,z,cs,K,S,h=>by
  obtain⟨rfl,A,y⟩:=L;simp only[Zsw]at h;obtain⟨o,k,g,h⟩:=m i _ h;split at h
  ·rename_i u
   obtain⟨B,l,b⟩:=u;rw[ZhB]at h;have c:=JJ A B;have w:=YG _ _ c;have e:=YG _ _ S;have a:v.cells.size=k:=by rw[<-Ux,<-w,l]
   have H:=Zwl cs o v (by rw[a,<-Ux,<-e];exact b);have hsp:=Zgj S c o;obtain⟨Z,C,f,n,t⟩:=ZkF place p m r q y _ (v.cells.zipIdx.foldl (λcs (x:Value×Nat)=>cs.setIfInBounds (o+x.2) x.1) cs) (by rw[H];simpa using hsp) h;refine⟨Z,C,?_,n,t⟩;unfold Instr.fill;simp only[g];have N:cs.size=z.length:=by rw[e,Ux]
   have d:¬((decide (v.cells.size≠k)||decide (o+v.cells.size>cs.size))=true):=by
    have f:¬(o+k>z.length):=by omega
    simp[a,N,f]
   rw[Ue d];exact f
  ·exact h.elim
 |[],_::_,L,_,_,_,_,_=>by simp[Zjz]at L
 |_::_,[],L,_,_,_,_,_=>by simp[Zjz]at L
def ZvE (t:TI) (p:List (Nat×SV)) (K:SV->Prop):Prop :=
 ZoC t.zero λz =>
  match t.kind with
  | .st=>Zsw (λi k=>ZBL t.flds i λo s _=>k o s) z p λcs=>K (.agg cs)
  | .arr _=>Zsw (λi k=>k (i*t.esize) t.esize) z p λcs=>K (.agg cs)
  |_=>False
variable {T:TypeId} {t:TI}
theorem ZqO (h:Zdi P T t) {s:Array Field} (L:P.underlying T=some (.struct s)) :
  s.toList.mapM (λf=>(P.info? f.type).map λi=>(f.offset,i.size))=some (t.flds.map λx=>(x.1,x.2.1)):=by
 have:=h.flds;rw[L]at this;simp only at this;revert this;generalize t.flds=F;generalize s.toList=l;intro this;induction l generalizing F with
 |nil=>cases F with
  |nil=>rfl
  |cons=>simp at this
 |cons f l I =>
  cases F with
  |nil=>simp at this
  |cons x F =>
   simp only[Kv,List.cons.injEq,Prod.mk.injEq]at this;obtain⟨⟨d,H,_⟩,b⟩:=this;cases a:P.info? f.type with
   |none=>simp[a]at H
   |some i =>
    simp[a]at H;simp[List.mapM_cons,I F b,a,d,H]
variable {E:Env} {Q:Array (Nat×Value)}
theorem ZvF (h:Zdi P T t) {p:List (Nat×SV)} (L:Zjz E p Q.toList) {K:SV->Prop} (a:ZvE t p K) :
  ∃u s,ZoF P (Instr.build T Q) u/\den E s u/\K s:=by
 unfold ZvE at a;obtain⟨z,S,a⟩:=Zf9 E _ _ a;obtain⟨i,q,_,_,H⟩:=h.info';split at a
 ·rename_i m
  obtain⟨D,d,b⟩:=h.get;rw[m]at b;obtain⟨F,rfl⟩:∃F,D=.struct F:=by cases D<;>simp[Zvq]at b;exact⟨_,rfl⟩
  obtain ⟨Z,C,c,f,j⟩:=ZkF (E:=E) (λi k=>ZBL t.flds i λo s _=>k o s) (((t.flds.map λx=>(x.1,x.2.1)).toArray)[·]?) (λi K hh=>by
   obtain ⟨o,s,g,e,a⟩:=Zqt _ hh;exact ⟨o,s,by simp[e],a⟩) p Q.toList L z t.zero.cells S a
  refine⟨_,_,λw=>run_build w T Q C ?_,by simp only[den];exact⟨C.toList,by simp,f⟩,j⟩;unfold Program.built;simp only[q,d,H,ZqO h d];exact c
 ·rename_i n d
  obtain⟨v,_,I,l,r,_,_⟩:=h.array d;obtain⟨Z,C,c,f,j⟩:=ZkF (E:=E) (λi k=>k (i*t.esize) t.esize) (λi=>some (i*t.esize,t.esize)) (λi K hh=>⟨_,_,rfl,hh⟩) p Q.toList L z t.zero.cells S a;refine⟨_,_,λw=>run_build w T Q C ?_,by simp only[den];exact⟨C.toList,by simp,f⟩,j⟩;unfold Program.built;simp only[q,v,H,l,r];exact c
 ·exact a.elim
def Zqu (t:Ty):Nat->List SV->(List t.den->Prop)->Prop
 |0,_,K=>K []
 |n+1,cs,K=>X0 t cs λx r=>Zqu t n r λl=>K (x::l)
theorem Zn3 {E:Env} (t:Ty):∀(n:Nat) (cs:List SV) {K:List t.den->Prop} (vs:List Value),Yf E cs vs->vs.length=n*t.size->Zqu t n cs K->
  ∃l,l.length=n/\QH (rep E.S E.w t) l vs/\K l
 |0,cs,K,vs,_,q,h=>⟨[],rfl,by simp[QH];exact UC (by simpa using q),h⟩
 |n+1,cs,K,vs,L,q,h=>by
  obtain ⟨x,r,v1,v,e,d,f,g⟩:=XD t cs _ vs L h;have H:=X3 t x v1 d;obtain ⟨l,c,a,k⟩:=Zn3 t n r v f (by
   subst e;rw[Uh,H,U4] at q;omega) g
  exact⟨x::l,by simp[c],⟨v1,v,e,d,a⟩,k⟩
def ZgX (c:TypeId) (t:Ty) (d:List t.den) (H:List Entry) (K:SV->List Entry->Prop):Prop :=
 Zsg H 0 λn=>ZpT H [.arr c t d] λH'=>K (.own n) H'
variable {B:Base} {H:List Entry} {K:SV->List Entry->Prop}
theorem Zn1 (m:Inv B E H) {a:TypeId} {t:Ty} {d:List t.den} (k:ZgX a t d H K) (cs:Array Value) (c:Nat)
  (q:d.length<=c) (Q:c<=maxLen) (b:cs.size=c*t.size) (r:QH (rep E.S E.w t) d (cs.toList.take (d.length*t.size))) :
  ∃E' H' s,E'.w=E.w.alloc (.cells cs a)/\Inv B E' H'/\E.le E'/\den E' s (.slice (some ⟨E.w.heap.size,0,none⟩) d.length c)/\K s H':=by
 unfold ZgX at k;rw[Zb7,ZaQ,Uw]at k;have e:=ZpS m (.cells cs a) (.slice (some ⟨E.w.heap.size,0,none⟩) d.length c);have h:(E.ids++[Value.slice (some ⟨E.w.heap.size,0,none⟩) d.length c])[H.length]?=some (.slice (some ⟨E.w.heap.size,0,none⟩) d.length c):=by
  rw[<-m.len];simp
 refine⟨⟨E.S,E.w.alloc (.cells cs a),E.ids++[.slice (some ⟨E.w.heap.size,0,none⟩) d.length c]⟩,_,_,rfl,m.alloc (.cells cs a) _ _ rfl ?_,e,?_,k⟩
 ·refine⟨_,cs.toList.take (d.length*t.size),h,⟨?_,.inr ⟨_,c,cs,0,rfl,UM _,Go.heap_alloc_new _ _,q,Q,by rw[Uw];exact Nat.le_of_eq b.symm,by rw[KL]⟩⟩,VN (λd vs=>Yo e.S e.w t d vs) _ _ r⟩
  have L:cs.toList.length=cs.size:=Ux;rw[Uo,L,b];have:=U2 t.size q;omega
 ·simp only[den]
  exact⟨h,_,_,_,rfl⟩
def ZCo (z:List SV):Nat->(List SV->Prop)->Prop
 |0,K=>K []
 |n+1,K=>ZCo z n λl=>ZpT z l K
theorem ZsY (z:List SV):∀(n:Nat) (K:List SV->Prop),ZCo z n K=K (List.replicate n z).flatten
 |0,_=>rfl
 |n+1,K=>by simp[ZCo,ZsY z n,ZaQ,Ks]
theorem Zp1 {E:Env} {z:List SV} {vs:List Value} (h:Yf E z vs):∀n,Yf E (List.replicate n z).flatten (List.replicate n vs).flatten
 |0=>trivial
 |n+1=>by simpa[Ks]using ZaS _ _ h _ _ (Zp1 h n)
theorem ZcV? (vs:List Value):∀(n k:Nat),(List.replicate n vs).flatten[k]?=if k<n*vs.length then vs[k%vs.length]? else none
 |0,k=>by simp
 |n+1,k=>by
  rw[Ks,List.flatten_cons,List.getElem?_append];by_cases h:k<vs.length
  ·rw[Uc h,Uc (by rw[U4];omega),Nat.mod_eq_of_lt h]
  ·rw[Ue h,ZcV? vs n (k-vs.length)]
   have e:(k-vs.length)%vs.length=k%vs.length:=by
    rw[<-Nat.mod_eq_sub_mod (by omega)]
   rw[e,U4];by_cases f:k<n*vs.length+vs.length
   ·rw[Qe,Uc f]
   ·rw[Qu,Ue f]
theorem ZgV (z:Array Value) (n:Nat):(madeCells z (n*z.size)).toList=(List.replicate n z.toList).flatten:=by
 apply UI;intro k;rw[ZcV?,Ux];simp only[madeCells,Array.toList_map,Array.toList_range,UL,Kf];by_cases h:k<n*z.size
 ·have S:0<z.size:=by
   rcases KP z.size with H|H
   ·rw[H]at h;omega
   ·exact H
  have a:k%z.size<z.size:=Nat.mod_lt _ S;simp[h,a]
 ·simp[h]
def ZjQ (t:TI) (len:Nat) (p:List (Nat×SV)) (H:List Entry) (K:SV->List Entry->Prop):Prop :=
 match t.kind with
 | .sl=>if len=0/\p.isEmpty=true then ZgX t.elem t.ety [] H K else ZoC t.ezero λz=>if z.length=t.esize/\t.ety.size=t.esize/\0<len*t.esize/\len*t.esize<=16777216 then
   ZCo z len λZ=>Zsw (λi k=>k (i*t.esize) t.esize) Z p λcs=>VD cs H λC H'=>Zqu t.ety len C λd=>ZgX t.elem t.ety d H' K
  else False
 |_=>False
theorem ZoH (hI:Inv B E H) (h:Zdi P T t) {len:Nat} {M:List (Nat×SV)} (R:Zjz E M Q.toList) (a:ZjQ t len M H K) :
  ∃u E' H' s,(Instr.buildSlice T len Q).run P E.w=.ok u E'.w/\Inv B E' H'/\E.le E'/\den E' s u/\K s H'/\Grow E.w E'.w:=by
 unfold ZjQ at a;split at a
 ·rename_i y
  split at a
  ·rename_i x
   obtain⟨rfl,n⟩:=x;have n:M=[]:=by simpa using n
   subst n;have hq:Q.toList=[]:=by cases X:Q.toList with
    |nil=>rfl
    |cons q r=>rw[X]at R;simp[Zjz]at R
   obtain⟨Y,_,ie,l,L,_,o⟩:=h.slice y;obtain⟨E2,H2,s,e,f,b,g,a⟩:=Zn1 hI a #[] 0 (by simp) (by unfold maxLen;omega) (by simp) (by simp[QH]);refine⟨_,E2,H2,s,?_,f,b,g,a,by rw[e];exact Zcr _ _⟩;rw[e];simp[Instr.buildSlice,run_underlying Y,sizeOf,typeInfo,l,hq,Instr.fill,newRow];congr 2;apply Array.ext';simp
  obtain⟨z,hz,a⟩:=Zf9 E _ _ a;split at a
  ·rename_i hc
   obtain⟨Z,p,G,a2⟩:=hc;obtain⟨Y,_,ie,l,L,_,o⟩:=h.slice y;rw[ZsY]at a;have a0:=YG _ _ hz;have a1:t.ezero.cells.size=t.esize:=by rw[<-Ux,<-a0,Z]
   have m:(madeCells t.ezero.cells (len*t.esize)).toList=(List.replicate len t.ezero.cells.toList).flatten:=by
    rw[<-a1];exact ZgV _ _
   obtain⟨z',C,h1,h2,h3⟩:=ZkF (E:=E) (λi k=>k (i*t.esize) t.esize) (λi=>some (i*t.esize,t.esize)) (λi K hh=>⟨_,_,rfl,hh⟩) M Q.toList R _ (madeCells t.ezero.cells (len*t.esize)) (by rw[m];exact Zp1 hz len) a;obtain⟨E1,H1,N,I,a3,O,F,S,a⟩:=ZnF _ hI h2 h3;have A:∀(Q:List (Nat×Value)) (c J:Array Value),Instr.fill (λi=>some (i*t.esize,t.esize)) c Q=some J->J.size=c.size:=by
    intro Q;induction Q with
    |nil=>intro c J hh;simp[Instr.fill]at hh;rw[hh]
    |cons q Q ih =>
     intro c J hh;obtain⟨i,v⟩:=q;simp only[Instr.fill]at hh;split at hh
     ·cases hh
     ·have:=ih _ _ hh
      rw[this,<-Array.foldl_toList,Array.toList_zipIdx];exact(Great.foldl_set (i*t.esize) v.cells.toList 0 c).1
   have V:C.size=len*t.esize:=by rw[A _ _ _ h1,size_madeCells]
   obtain⟨d,D,U,a⟩:=Zn3 t.ety len N C.toList S (by rw[Ux,V,p]) a;have j:1<=t.esize:=by
    rcases KP t.esize with x|x
    ·rw[x]at G;omega
    ·exact x
   have W:len<=maxLen:=by
    have:=Nat.mul_le_mul_left len j;unfold maxLen;omega
   obtain ⟨E2,H2,s,e,f,b,g,a⟩:=Zn1 O a C len (by omega) W (by rw[V,p]) (by
    rw[D,p,<-V,<-Ux,Ur];exact U)
   refine⟨_,E2,H2,s,?_,f,F.trans b,g,a,by rw[e,I];exact Zcr _ _⟩;rw[e,I,D];exact run_buildSlice E.w T t.elem len Q C ie t.ezero Y l o (by rw[L];omega) (by rw[L];omega) (by rw[L];exact h1)
  ·exact a.elim
 ·exact a.elim
def ZAu (t:TI) (sl s:SV) (H:List Entry) (K:SV->List Entry->Prop):Prop :=
 match t.kind,sl,s with
 | .sl,.int _ l,.int _ c=>ZoC t.ezero λz=>if z.length=t.esize/\t.ety.size=t.esize then
   0<=l/\l<=c/\c<=4611686018427387904/\(t.ebytes:Int)*c<=281474976710656/\X0 t.ety z λx _=>ZgX t.elem t.ety (List.replicate l.toNat x) H K
  else False
 |_,_,_=>False
theorem Zin {α:Type} {R:α->List Value->Prop} {x:α} {vs:List Value} (h:R x vs):∀n,QH R (List.replicate n x) (List.replicate n vs).flatten
 |0=>by simp[QH]
 |n+1=>by simpa[Ks,QH]using⟨vs,_,rfl,h,Zin h n⟩
theorem ZyF (O:Inv B E H) (h:Zdi P T t) {sl G:SV} {I V:Value} (D:den E sl I) (q:den E G V) (k:ZAu t sl G H K) :
  ∃u E' H' s,(Instr.makeSlice T I V).run P E.w=.ok u E'.w/\Inv B E' H'/\E.le E'/\den E' s u/\K s H'/\Grow E.w E'.w:=by
 unfold ZAu at k;split at k
 ·rename_i Y l X c i
  obtain⟨z,S,k⟩:=Zf9 E _ _ k;split at k
  ·rename_i a
   obtain⟨Z,p⟩:=a;obtain⟨J,n,C,y,k⟩:=k;obtain⟨U,_,W,j,R,Q,o⟩:=h.slice i;simp only[den]at D q;subst D;subst q;have A:=YG _ _ S;have N:t.ezero.cells.size=t.esize:=by rw[<-Ux,<-A,Z]
   obtain⟨x,r,v1,v2,e1,F,_,k⟩:=XD _ _ _ _ S k;have v:v1=t.ezero.cells.toList:=by
    have L:=X3 _ _ _ F;have M:=Ka List.length e1;rw[Uh,Ux,N,L,p]at M;have:v2=[]:=UC (by omega);rw[e1,this,Um]
   have m:(madeCells t.ezero.cells (c.toNat*t.esize)).toList=(List.replicate c.toNat t.ezero.cells.toList).flatten:=by
    rw[<-N];exact ZgV _ _
   obtain ⟨E2,H2,s,e,f,b,g,k⟩:=Zn1 O k (madeCells t.ezero.cells (c.toNat*t.esize)) c.toNat (by rw[UT];omega) (by unfold maxLen;omega) (by rw[size_madeCells,p]) (by
    have q:=Zin F c.toNat;have:=Zj9 (λd vs=>X3 t.ety d vs) _ _ q l.toNat;rw[List.take_replicate]at this;rw[UT,m,<-v]
    rwa [show min l.toNat c.toNat=l.toNat by omega] at this)
   refine⟨_,E2,H2,s,?_,f,b,g,k,by rw[e];exact Zcr _ _⟩;rw[e,UT,<-R];exact run_make E.w T t.elem W t.ezero U j o Y X l c J n (by rw[Q];exact y) (by omega)
  ·exact k.elim
 ·exact k.elim
end
section
variable {P:Program}
theorem ZjI (w:World) (base:Nat) (t ty e:TypeId) (i:TypeInfo) (z:Value) (size bytes:Nat) (r:P.underlying t=some (.slice e)) (l:P.info? e=some i) (S:i.zero=some z)
  (A:i.size=size) (K:i.bytes=bytes) (_hzs:z.cells.size=size) (_hsz:0<size)
  (v:Value) (n:Nat) (xs:List Value) (b:w.Jr base e size v n xs)
  (a:Addr) (m c:Nat) (s:List Value) (q:s.length=m*size) (H:∀j u,s[j]?=some u->w.cell? (a.add j)=some u) (y:∀u∈s,u.oneCell'=true)
  (C:n+m<=maxLen) (f:(n+m)*bytes<=140737488355328) {v':Value} {w':World} (h:(Builtin.append_ #[t,t] ty #[v,.slice (some a) m c]).run P w=.ok v' w') :
  v'=.slice none 0 0\/Yv v'=v.ownBlock\/Yv v'=some w.heap.size:=by
 subst A;subst K
 have G:n+m<=9223372036854775807:=by simp only[maxLen]at C;omega
 rcases b.2 with⟨rfl,rfl⟩|⟨g,p,cur,o,rfl,J,F,I,D,V,x⟩
 ·by_cases Q:m=0
  ·subst Q
   have W:s=[]:=UC (by simpa using q);subst W;have E:(Builtin.append_ #[t,t] ty #[.slice none 0 0,.slice (some a) 0 c]).run P w=.ok (.slice none 0 0) w:=by
    simp[Builtin.append_,run_underlying r,sizeOf,typeInfo,l,Builtin.lenOf,Builtin.firstCells,loadCells,loadCellsFrom]
   rw[E]at h;injection h with e1 _
   exact .inl e1.symm
  ·have E:=run_append_nil (P:=P) w t ty e i z r l S a m c s q H (by omega) (by omega) (by have B:=f;simp only[Uw]at B;omega)
   rw[E]at h;injection h with e1 _
   subst e1;exact .inr (.inr rfl)
 ·by_cases d:n+m<=p
  ·have R:n*i.size+m*i.size<=p*i.size:=by rw[<-Nat.add_mul];exact U2 _ d
   have k:o+n*i.size+s.length<=cur.size:=by rw[q];omega
   have E:=Zg0 (P:=P) w t ty e i r l g o n p cur F a m c s q H y d k;rw[E]at h;injection h with e1 _
   subst e1;exact .inr (.inl rfl)
  ·have holds:∀j u,xs[j]?=some u->w.cell? ((⟨g,o,none⟩:Addr).add j)=some u:=b.Zgh rfl
   have E:=run_append_grow (P:=P) w t ty e i z r l S ⟨g,o,none⟩ n p xs b.1 holds a m c s q H (by omega) (by omega) (growslice_fits (by omega) f);rw[E]at h;injection h with e1 _
   subst e1;exact .inr (.inr rfl)
def ZCC (x:SV) (H:List Entry) (K:(t:Ty)->List t.den->Prop) (Knil:Prop):Prop :=
 match x with
 | .sl t d=>K t d
 | .nsl=>Knil
 | .own I=>ZgN H I λe=>match e with
  | .arr _ t d=>K t d
  | .frz t d=>K t d
  |_=>False
 |_=>False
def ZC1 (E:Env) (t:Ty) (d:List t.den) (v:Value):Prop :=
 (v=.slice none 0 0/\d=[])\/∃a c xs,v=.slice (some a) d.length c/\xs.length=d.length*t.size/\(∀j u,xs[j]?=some u->E.w.cell? (a.add j)=some u)/\QH (rep E.S E.w t) d xs
variable {E:Env} {t:Ty} {d:List t.den} {v:Value}
theorem ZnW (h:rep E.S E.w (.sl t) d [v]):ZC1 E t d v:=by
 obtain⟨a,c,e1,e,W,g⟩:=h;simp at e1;cases a with
 |none =>
  have:=W rfl;subst this;have L:d=[]:=UC (by omega);subst L;exact .inl ⟨e1,rfl⟩
 |some A =>
  rcases g with g|⟨p,xs,f,b,s,q,g⟩
  ·subst g
   exact .inr ⟨A,c,[],e1,by simp,λj u H=>by simp at H,rfl⟩
  ·simp at f;subst f
   exact .inr ⟨A,c,xs,e1,ZkY (λd vs=>X3 t d vs) _ _ g,q,g⟩
variable {xs:List Value}
theorem ZsL {e:TypeId} (f:E.w.Jr 0 e t.size v d.length xs) (h:QH (rep E.S E.w t) d xs):ZC1 E t d v:=by
 rcases f.2 with⟨rfl,W⟩|⟨g,c,cur,o,rfl,_,hh,q,_⟩
 ·exact .inl ⟨rfl,UC W⟩
 ·exact .inr ⟨_,c,xs,rfl,f.1,f.Zgh rfl,h⟩
variable {B:Base} {H:List Entry} {x:SV}
theorem Zs6 (m:Inv B E H) (Z:den E x v) {K:(t:Ty)->List t.den->Prop} {Kn:Prop} (h:ZCC x H K Kn) :
  (∃t d,ZC1 E t d v/\K t d)\/(v=.slice none 0 0/\Kn):=by
 unfold ZCC at h;split at h
 ·rename_i t d;simp only[den]at Z;exact .inl ⟨t,d,ZnW Z,h⟩
 ·simp only[den]at Z;exact .inr ⟨Z,h⟩
 ·rename_i I
  obtain⟨e,l,h⟩:=Y0 H h;simp only[den]at Z;split at h
  ·rename_i c t d
   obtain⟨v',xs,e1,f,g⟩:=m.ent I _ l;have:=Z.1.symm.trans e1;simp at this;subst this;exact .inl ⟨t,d,ZsL f g,h⟩
  ·rename_i t d
   obtain⟨v',e1,f⟩:=m.ent I _ l;have:=Z.1.symm.trans e1;simp at this;subst this;exact .inl ⟨t,d,ZnW f,h⟩
  ·exact h.elim
 ·exact h.elim
def Zsn (i:TI) (s x:SV) (H:List Entry) (K:SV->List Entry->Prop):Prop :=
 match i.kind with
 | .sl=>ZoC i.ezero λz=>if z.length=i.esize/\0<i.esize/\0<i.ebytes then
   match s with
   | .own I=>ZgN H I λe=>match e with
    | .arr c t d=>if c=i.elem/\t.size=i.esize then
      ZCC x H (λt' a=>if h:t'=t then(d.length+a.length)*i.ebytes<=140737488355328/\ZhD H I .gone λH'=>Zux h a λD=>ZgX c t (d++D) H' K else False)
       (ZhD H I .gone λH'=>ZgX c t d H' K)
     else False
    |_=>False
   | .nsl=>if i.ety.size=i.esize then
     ZCC x H (λt' a=>if h:t'=i.ety then a.length*i.ebytes<=140737488355328/\Zux h a λD=>ZgX i.elem i.ety D H K else False) (ZgX i.elem i.ety [] H K)
    else False
   |_=>False
  else False
 |_=>False
variable {K:SV->List Entry->Prop}
theorem ZsX (m:Inv B E H) {c:TypeId} (k:ZgX c t d H K)
  (f:E.w.Jr 0 c t.size v d.length xs) (a:QH (rep E.S E.w t) d xs)
  (b:∀ g,Yv v=some g->¬E.S g/\(B.w.heap.size<=g\/B.io g)/\g<E.w.heap.size/\
   ∀ (j:Nat) (G:Entry) (V:Value),H[j]?=some G->G.live=true->E.ids[j]?=some V->¬Zhi G V g) :
  ∃E' H' s,E'.w=E.w/\Inv B E' H'/\E.le E'/\den E' s v/\K s H':=by
 unfold ZgX at k;rw[Zb7,ZaQ,Uw]at k;have h:(E.ids++[v])[H.length]?=some v:=by rw[<-m.len];simp
 refine⟨⟨E.S,E.w,E.ids++[v]⟩,_,_,rfl,m.push v (.arr c t d) ⟨v,xs,h,f,a⟩ (λ_=>b),ZjA E v,?_,k⟩;simp only[den];refine⟨h,?_⟩;rcases f.2 with⟨rfl,_⟩|⟨g,p,cur,o,rfl,_⟩
 ·exact⟨_,_,_,rfl⟩
 ·exact⟨_,_,_,rfl⟩
theorem Zuv (m:Inv B E H) {T ty:TypeId} {i:TI} (h:Zdi P T i) {s:SV} {vs vx:Value} (hs:den E s vs) (hx:den E x vx) (k:Zsn i s x H K) :
  ∃u E' H' r,(Builtin.append_ #[T,T] ty #[vs,vx]).run P E.w=.ok u E'.w/\Inv B E' H'/\E.le E'/\den E' r u/\K r H'/\E.w.grownBy E'.w vs.ownBlock:=by
 unfold Zsn at k;split at k
 ·rename_i d2
  obtain⟨z,hz,k⟩:=Zf9 E _ _ k;split at k
  ·rename_i hc
   obtain⟨d4,d6,a5⟩:=hc;obtain⟨hu,_,ie,W,b7,b1,U⟩:=h.slice d2;have b8:i.ezero.cells.size=i.esize:=by rw[<-Ux,<-YG _ _ hz,d4]
   have core:∀(t:Ty) (d:List t.den) (xs:List Value) (H1:List Entry),t.size=i.esize->E.w.Jr 0 i.elem t.size vs d.length xs->QH (rep E.S E.w t) d xs->
     (∀w',E.w.grownBy w' vs.ownBlock->Inv B ⟨E.S,w',E.ids⟩ H1/\E.le ⟨E.S,w',E.ids⟩)->
     (∀ g,vs.ownBlock=some g->¬E.S g/\(B.w.heap.size<=g\/B.io g)/\g<E.w.heap.size/\
      ∀ (j:Nat) (G:Entry) (V:Value),H1[j]?=some G->G.live=true->E.ids[j]?=some V->¬Zhi G V g)->
     (∀(j:Nat) (G:Entry) (V:Value),H1[j]?=some G->G.live=true->E.ids[j]?=some V->¬Zhi G V E.w.heap.size)->
     ∀(D:List t.den),ZC1 E t D vx->(d.length+D.length)*i.ebytes<=140737488355328->ZgX i.elem t (d++D) H1 K->
     ∃u E' H' r,(Builtin.append_ #[T,T] ty #[vs,vx]).run P E.w=.ok u E'.w/\Inv B E' H'/\E.le E'/\den E' r u/\K r H'/\E.w.grownBy E'.w vs.ownBlock:=by
    intro t d xs H1 f n Q L J b4 D q p k;rcases q with⟨rfl,rfl⟩|⟨ad,c,N,rfl,b5,b3,a7⟩
    ·have hr:=ZeV (P:=P) (w:=E.w) 0 T ty i.elem ie t.size hu W vs d.length xs n
     obtain⟨C,F⟩:=L E.w ⟨rfl,rfl,rfl,UE _,λ_ _ _=>rfl⟩;rw[Um]at k;obtain⟨E',H',r,hw,h1,h2,h3,h4⟩:=ZsX C k n Q (λg a=>J g (by rw[<-Zb8 n];exact a));exact⟨vs,E',H',r,by rw[hw];exact hr,h1,F.trans h2,h3,h4,by rw[hw];exact⟨rfl,rfl,rfl,UE _,λ_ _ _=>rfl⟩⟩
    ·have a9:d.length+D.length<=maxLen:=by
      have:=Nat.le_mul_of_pos_right (d.length+D.length) a5;unfold maxLen;omega
     obtain⟨v',w',hr,o,b2,_⟩:=Zk0 (P:=P) E.w 0 T ty i.elem ie i.ezero t.size i.ebytes hu W U (by rw[b7,f]) b1 (by rw[b8,f]) (by omega) vs d.length xs n
      ad D.length c N b5 b3 (Zl6 D N a7) a9 p (UM _)
     have b0:=ZjI (P:=P) E.w 0 T ty i.elem ie i.ezero t.size i.ebytes hu W U (by rw[b7,f]) b1 (by rw[b8,f]) (by omega) vs d.length xs n
      ad D.length c N b5 b3 (Zl6 D N a7) a9 p hr
     obtain⟨C,F⟩:=L w' b2;have a0:=VN (R':=rep E.S w' t) (λd vs=>Yo F.S F.w t d vs) _ _ Q;have b6:=VN (R':=rep E.S w' t) (λd vs=>Yo F.S F.w t d vs) _ _ a7;have X:∀g,Yv v'=some g->g<w'.heap.size:=by
      intro g a;rw[Zb8 o]at a;exact(o.lt g a).2
     obtain ⟨E',H',r,hw,h1,h2,h3,h4⟩:=ZsX C k (v:=v') (xs:=xs++N) (by rw[Uh];exact o) (Zh2 _ _ _ _ a0 b6) (λg a=>by
      rcases b0 with b|b|b
      ·subst b;simp[Yv]at a
      ·rw[b]at a
       obtain⟨a1,a2,_,a4⟩:=J g a;exact⟨a1,a2,X g (by rw[b];exact a),a4⟩
      ·rw[b]at a;simp at a;subst a
       exact ⟨λhS=>KX _ (m.Slt _ hS),.inl m.keeps.size,X _ b,b4⟩)
     exact⟨v',E',H',r,by rw[hw];exact hr,h1,F.trans h2,h3,h4,by rw[hw];exact b2⟩
   split at k
   ·rename_i I _hk0
    obtain⟨en,he,k⟩:=Y0 H k;split at k
    ·rename_i et t d
     split at k
     ·rename_i d1
      obtain⟨d3,f⟩:=d1;subst d3;simp only[den]at hs;obtain⟨v',xs,e1,h2,h3⟩:=m.ent I _ he;have:=hs.1.symm.trans e1;simp at this;subst this;have Z:=Zb8 h2;have l:∀(j:Nat) (G:Entry) (V:Value),(H.set I .gone)[j]?=some G->G.live=true->E.ids[j]?=some V->j≠I/\H[j]?=some G:=by
       intro j G V y q R;by_cases a6:I=j
       ·subst a6
        have X:I<H.length:=(Ub.1 he).1;rw[UF X]at y;simp at y;subst y;simp[Entry.live]at q
       ·rw[UH a6]at y;exact⟨λe=>a6 e.symm,y⟩
      have M:=core t d xs (H.set I .gone) f h2 h3
       (λw' a=>⟨m.write he rfl e1 (by rw[Z];exact a) .gone trivial,ZdY a m.Slt (λg A=>(m.free I _ vs g he rfl e1 ((show Yv vs=some g by rw[Z];exact A))).1)⟩)
       (λg A=>by
        obtain ⟨a1,a2,a3⟩:=m.free I _ vs g he rfl e1 ((show Yv vs=some g by rw[Z];exact A));refine ⟨a1,a2,a3,λj G V y q R b=>?_⟩;obtain ⟨Y,O⟩:=l j G V y q R;exact Y (m.sep j I G _ V vs g O he q rfl R e1 b ((show Yv vs=some g by rw[Z];exact A))))
       (λj G V y q R b=>by
        obtain ⟨Y,O⟩:=l j G V y q R;exact KX _ (m.free j G V _ O q R b).2.2)
      rcases Zs6 m hx k with⟨t',D,q,k⟩|⟨rfl,k⟩
      ·split at k
       ·rename_i a8;subst a8
        obtain⟨b,k⟩:=k;rw[Xu]at k;exact M D q b k
       ·exact k.elim
      ·rw[Xu]at k
       have d5:(d.length+([]:List t.den).length)*i.ebytes<=140737488355328\/True:=.inr trivial;have hr:=ZeV (P:=P) (w:=E.w) 0 T ty i.elem ie t.size hu W vs d.length xs h2;have C:=m.drop I;obtain ⟨E',H',r,hw,h1,b9,d0,h4⟩:=ZsX C k h2 h3 (λg A=>by
        obtain ⟨a1,a2,a3⟩:=m.free I _ vs g he rfl e1 A;refine ⟨a1,a2,a3,λj G V y q R b=>?_⟩;obtain ⟨Y,O⟩:=l j G V y q R;exact Y (m.sep j I G _ V vs g O he q rfl R e1 b A))
       exact⟨vs,E',H',r,by rw[hw];exact hr,h1,b9,d0,h4,by rw[hw];exact⟨rfl,rfl,rfl,UE _,λ_ _ _=>rfl⟩⟩
     ·exact k.elim
    ·exact k.elim
   ·simp only[den]at hs;subst hs
    split at k
    ·rename_i f
     have M:=core i.ety [] [] H f (World.Zjd _ _ _ _) rfl
      (λw' a=>⟨m.grow a,ZdY a m.Slt (λg A=>by simp[Value.ownBlock]at A)⟩)
      (λg A=>by simp[Value.ownBlock]at A)
      (λj G V y q R b=>KX _ (m.free j G V _ y q R b).2.2)
     rcases Zs6 m hx k with⟨t',D,q,k⟩|⟨rfl,k⟩
     ·split at k
      ·rename_i a8;subst a8
       exact M D q (by simpa using k.1) k.2
      ·exact k.elim
     ·exact M [] (.inl ⟨rfl,rfl⟩) (by simp) k
    ·exact k.elim
   ·exact k.elim
  ·exact k.elim
 ·exact k.elim
end
section
variable {P:Program}
def ZE3 (t:TI) (x:SV) (H:List Entry) (K:SV->Prop):Prop :=
 match t.kind with
 | .sl=>match x with
  | .sl _ d=>K (.int .i64 (d.length:Int))
  | .nsl=>K (.int .i64 0)
  | .own I=>ZgN H I λe=>match e with
   | .arr _ _ d=>K (.int .i64 (d.length:Int))
   | .frz _ d=>K (.int .i64 (d.length:Int))
   | .darr _ _ d _=>K (.int .i64 (d.length:Int))
   | .hole _ _ d _ _ _=>K (.int .i64 (d.length:Int))
   | .spl _ _ d _ _=>K (.int .i64 (d.length:Int))
   | .hsp _ _ d _ _ _=>K (.int .i64 (d.length:Int))
   |_=>False
  |_=>False
 | .str=>match x with
  | .str s=>K (.int .i64 (s.length:Int))
  |_=>False
 | .arr n=>K (.int .i64 (n:Int))
 |_=>False
variable {T:TypeId} {t:TI}
theorem Zdi.string (h:Zdi P T t) (H:t.kind=.str):P.underlying T=some .string:=by
 obtain⟨d,L,u⟩:=h.get;rw[H]at u;cases d<;>simp[Zvq]at u
 exact L
theorem Zdi.intOf (h:Zdi P T t) {k:IntKind} (H:t.kind=.int k):P.underlying T=some (.int k):=by
 obtain⟨d,L,u⟩:=h.get;rw[H]at u;cases d<;>simp[Zvq]at u
 subst u;exact L
variable {B:Base} {E:Env} {H:List Entry} {x:SV} {v:Value} {K:SV->Prop}
theorem ZAp (m:Inv B E H) {ty:TypeId} {r:TI} (h:Zdi P T r) (Z:den E x v) (k:ZE3 r x H K) :
  ∃u s,ZoF P (Builtin.len_ #[T] ty #[v]) u/\den E s u/\K s:=by
 unfold ZE3 at k;have sl:∀(a:Option Addr) (n c:Nat),r.kind=.sl->v=.slice a n c->K (.int .i64 (n:Int))->∃u s,ZoF P (Builtin.len_ #[T] ty #[v]) u/\den E s u/\K s:=by
  intro a n c L A k;subst A;have b:=(h.slice L).1;exact⟨_,_,λw=>by simp[Builtin.len_,run_underlying b];rfl,ZaR E .i64 n,k⟩
 split at k
 ·rename_i L
  split at k
  ·rename_i t d
   simp only[den]at Z;obtain⟨a,p,e1,_⟩:=Z;simp at e1;exact sl a _ p L e1 k
  ·simp only[den]at Z
   exact sl none 0 0 L Z k
  ·rename_i I
   obtain⟨C,l,k⟩:=Y0 H k;simp only[den]at Z;split at k
   ·rename_i i t d
    obtain⟨v',xs,e1,f,q⟩:=m.ent I _ l;have:=Z.1.symm.trans e1;simp at this;subst this;rcases f.2 with⟨rfl,W⟩|⟨g,p,cur,o,rfl,_⟩
    ·rw[W]at k;exact sl _ _ _ L rfl k
    ·exact sl _ _ _ L rfl k
   ·rename_i t d
    obtain⟨v',e1,f⟩:=m.ent I _ l;have:=Z.1.symm.trans e1;simp at this;subst this;obtain⟨a,p,e1,_⟩:=f;simp at e1;exact sl a _ p L e1 k
   ·rename_i i e d F
    obtain⟨v',xs,z,e1,f,q⟩:=m.ent I _ l;have:=Z.1.symm.trans e1;simp at this;subst this;rcases f.2 with⟨rfl,W⟩|⟨g,p,cur,o,rfl,_⟩
    ·rw[W]at k;exact sl _ _ _ L rfl k
    ·exact sl _ _ _ L rfl k
   ·rename_i i e d j cs F
    obtain⟨v',xs,X,V,y,f1,f2,e1,f,q⟩:=m.ent I _ l;have:=Z.1.symm.trans e1;simp at this;subst this;rcases f.2 with⟨rfl,W⟩|⟨g,p,cur,o,rfl,_⟩
    ·rw[W]at k;exact sl _ _ _ L rfl k
    ·exact sl _ _ _ L rfl k
   ·rename_i i e d n F
    obtain⟨v',e1,⟨xs,X,y,f1,f,q⟩,_⟩:=m.ent I _ l;have:=Z.1.symm.trans e1;simp at this;subst this;rcases f.2 with⟨rfl,W⟩|⟨g,p,cur,o,rfl,_⟩
    ·rw[W]at k;exact sl _ _ _ L rfl k
    ·exact sl _ _ _ L rfl k
   ·rename_i i e d j cs F
    obtain⟨v',xs,X,V,y,f1,e1,f,q⟩:=m.ent I _ l;have:=Z.1.symm.trans e1;simp at this;subst this;rcases f.2 with⟨rfl,W⟩|⟨g,p,cur,o,rfl,_⟩
    ·rw[W]at k;exact sl _ _ _ L rfl k
    ·exact sl _ _ _ L rfl k
   ·exact k.elim
  ·exact k.elim
 ·rename_i L
  split at k
  ·rename_i s
   simp only[den]at Z;subst Z;refine⟨_,_,?_,ZaR E .i64 s.length,k⟩;have b:=h.string L;have Y:(⟨s.toArray⟩:ByteArray).size=s.length:=by simp[ByteArray.size]
   intro w;simp only[Builtin.len_,List.getElem?_toArray,KG,Sem.run_bind,run_underlying b,Result.andThen_ok,Y];rfl
  ·exact k.elim
 ·rename_i n L
  refine⟨_,_,?_,ZaR E .i64 n,k⟩;have b:=(h.array L).1;intro w;cases v<;>simp[Builtin.len_,run_underlying b,goInt]
 ·exact k.elim
theorem ZyH (x y:Int):(if y<x then y else x)=min x y:=by omega
theorem ZyG (x y:Int):(if y>x then y else x)=max x y:=by omega
def ZCh (mx:Bool):SV->List SV->(SV->Prop)->Prop
 |s,[],K=>K s
 | .int k x,.int _ y::r,K=>ZCh mx (.int k (if mx then max x y else min x y)) r K
 |_,_::_,_=>False
theorem ZsP {E:Env} {mx:Bool}:∀(cs:List SV) (s:SV) (v:Value) (vs:List Value),den E s v->Yf E cs vs->∀{K:SV->Prop},ZCh mx s cs K->
  ∃u r,(∀w,(vs.foldlM (if mx then Builtin.max2 else Builtin.min2) v).run P w=.ok u w)/\den E r u/\K r
 |[],s,v,vs,q,L,K,H=>by
  match vs,L with
  |[],_=>exact⟨v,s,λ_=>rfl,q,by cases s<;>exact H⟩
  |_::_,L=>simp[Yf]at L
 |c::cs,s,v,vs,q,L,K,H=>by
  match vs,L with
  |[],L=>simp[Yf]at L
  |u::vs,L =>
   simp only[Yf]at L;unfold ZCh at H;split at H
   ·simp at *
   ·rename_i k x b y r e1
    simp at e1;obtain⟨rfl,rfl⟩:=e1;have a:=L.1;simp only[den]at q a;subst q;subst a;obtain⟨U,R,d,f,g⟩:=ZsP cs _ (.int k (if mx then max x y else min x y)) vs (ZaR E k _) L.2 H;refine⟨U,R,?_,f,g⟩;intro w;have d:=d w;rw[List.foldlM_cons,Sem.run_bind];cases mx
    ·simp only[UN,Uj,Builtin.min2,ZyH,Sem.run_pure,Result.andThen_ok]at d ⊢;exact d
    ·simp only[Uk,Builtin.max2,ZyG,Sem.run_pure,Result.andThen_ok]at d ⊢;exact d
   ·exact H.elim
def ZFW (s:SV) (i:Nat) (K:SV->Prop):Prop :=
 match s with
 | .tup cs=>ZmN cs i K
 |_=>False
variable {s:SV}
theorem ZBx (q:den E s v) {i:Nat} (H:ZFW s i K):∃u r,(∀w,(Instr.extract v i).run P w=.ok u w)/\den E r u/\K r:=by
 unfold ZFW at H;split at H
 ·simp only[den]at q
  obtain⟨vs,rfl,L⟩:=q;obtain⟨r,u,d,f,g,_⟩:=ZbU _ _ L H;exact⟨u,r,λw=>by simp[Instr.extract,d],f,g⟩
 ·exact H.elim
def bytesOf (d:List Int):List UInt8:=d.map λn=>UInt8.ofNat n.toNat
def Zz2 (T t:TI) (x:SV) (H:List Entry) (K:SV->Prop):Prop :=
 match t.kind,x with
 | .int k,.int _ n=>K (.int k (k.wrap n))
 | .str,.str s=>K (.str s)
 |_,_=>False
variable {b:TI}
theorem Zyb {S:TypeId} (q:Zdi P S b) (r:Zdi P T t) (Z:den E x v) (h:Zz2 b t x H K) :
  ∃u s,(∀w,(convert S T v).run P w=.ok u w)/\den E s u/\K s:=by
 unfold Zz2 at h;obtain⟨d,a,_⟩:=q.get;split at h
 ·rename_i k c n L
  simp only[den]at Z;subst Z;refine⟨_,_,?_,ZaR E k _,h⟩;have f:=r.intOf L;intro w;unfold convert;rw[Sem.run_bind,run_underlying a,Result.andThen_ok,Sem.run_bind,run_underlying f,Result.andThen_ok];cases d<;>rfl
 ·rename_i s L
  simp only[den]at Z;subst Z;refine⟨_,_,?_,Zlg E s,h⟩;have f:=r.string L;intro w;unfold convert;rw[Sem.run_bind,run_underlying a,Result.andThen_ok,Sem.run_bind,run_underlying f,Result.andThen_ok];cases d<;>rfl
 ·exact h.elim
def ZvU (e:TI) (x:SV) (H:List Entry) (K:SV->Prop):Prop :=
 match e.kind with
 | .int .u8=>ZCC x H (λt d=>if h:t=.int .u8 then Zux h d λD=>K (.str (bytesOf D))else False) (K (.str []))
 |_=>False
theorem Zmu {S:Nat->Prop} {w:World}:∀(d:List Int) (xs:List Value),QH (rep S w (.int .u8)) d xs->xs=d.map (Value.int .u8)
 |[],xs,h=>by cases h;rfl
 |n::d,_,⟨v1,v,e,a,f⟩=>by
  have:=Zmu d v f;subst e;subst this;have H:v1=[.int .u8 n]:=a;subst H;rfl
theorem ZnB:∀(d:List Int) (s:List UInt8),d.foldl (λ(r:ByteArray) n=>r.push (UInt8.ofNat n.toNat)) (⟨s.toArray⟩:ByteArray)=⟨(s++bytesOf d).toArray⟩
 |[],s=>by simp[bytesOf]
 |n::d,s=>by
  have h:=ZnB d (s++[UInt8.ofNat n.toNat]);have e:(⟨s.toArray⟩:ByteArray).push (UInt8.ofNat n.toNat)=⟨(s++[UInt8.ofNat n.toNat]).toArray⟩:=by
   simp[ByteArray.push]
  rw[Hy,e,h];simp[bytesOf]
theorem ZvV (z:Inv B E H) {S:TypeId} {m q y:TI} (I:Zdi P S m) (g:m.kind=.sl) (J:Zdi P T q) (i:q.kind=.str) (k:Zdi P m.elem y) (Z:den E x v) (h:ZvU y x H K):∃u s,(convert S T v).run P E.w=.ok u E.w/\den E s u/\K s:=by
 unfold ZvU at h;split at h
 ·rename_i f
  obtain⟨p,_⟩:=I.slice g;have n:=k.intOf f;have r:=J.string i;have nil:v=.slice none 0 0->(convert S T v).run P E.w=.ok (.string ⟨([]:List UInt8).toArray⟩) E.w:=by
   rintro rfl;rw[run_convert_bytes_string _ _ _ _ _ _ _ p n r];rfl
  rcases Zs6 z Z h with⟨t,d,F,h⟩|⟨e,h⟩
  ·split at h
   ·rename_i b;subst b
    rw[Zto]at h;rcases F with⟨e,L⟩|⟨A,c,xs,e,l,D,G⟩
    ·subst L
     exact⟨_,_,nil e,Zlg E _,h⟩
    ·have C:=Zmu _ _ G
     subst e;refine⟨_,_,?_,Zlg E _,h⟩;rw[run_convert_bytes_string _ _ _ _ _ _ _ p n r];have a:=run_loadCells_list (P:=P) E.w A xs D;have j:xs.length=d.length:=by simpa[Ty.size]using l
     rw[j,C]at a;rw[run_bytesToString _ _ _ _ _ a];have o:=ZnB d [];rw[Uq]at o;rw[<-o];rfl
   ·exact h.elim
  ·exact⟨_,_,nil e,Zlg E _,h⟩
 ·exact h.elim
def int64?:SV->Option Int
 | .int .i64 n=>some n
 |_=>none
def Zrt:List SV->Option (List Int)
 |[]=>some []
 |c::r=>match int64? c,Zrt r with
  |some n,some l=>some (n::l)
  |_,_=>none
theorem Zys {c:SV} {n:Int} (h:int64? c=some n):c=.int .i64 n:=by
 unfold int64? at h;split at h
 ·injection h with h;subst h;rfl
 ·cases h
theorem Zru {E:Env}:∀(cs:List SV) {l:List Int},Zrt cs=some l->∀vs,Yf E cs vs->vs=l.map (λn=>Value.int .i64 n)
 |[],l,h,vs,L=>by
  simp only[Zrt,Option.some.injEq]at h;subst h;cases vs with
  |nil=>rfl
  |cons v vs=>simp[Yf]at L
 |c::cs,l,h,vs,L=>by
  cases vs with
  |nil=>simp[Yf]at L
  |cons v vs =>
   simp only[Yf]at L;obtain⟨d,H⟩:=L;unfold Zrt at h;split at h
   ·rename_i n a e1 f
    injection h with h
    subst h;have:=Zys e1;subst this;simp only[den]at d;subst d;rw[Zru cs f vs H];rfl
   ·cases h
def Zxz (t:TI) (s S:SV) (K:SV->Prop):Prop :=
 match t.kind,s,S with
 | .str,.str l,.int _ i=>Zjj l i λc=>K (.int .u8 (c.toNat:Int))
 | .arr n,.agg cs,.int _ i=>match Zrt cs with
  |some l=>if(!t.eagg&&t.esize==1&&l.length==n)=true then Zjj l i λc=>K (.int .i64 c)else False
  |none=>False
 |_,_,_=>False
theorem ZxA (h:Zdi P T b) {S:SV} {V:Value} (f:den E s v) (L:den E S V) (H:Zxz b s S K) :
  ∃u r,(∀w,(Instr.index T v V).run P w=.ok u w)/\den E r u/\K r:=by
 unfold Zxz at H;split at H
 ·rename_i l k i o
  simp only[den]at f L;subst f;subst L;obtain⟨g,D,m⟩:=H;obtain⟨c,q⟩:∃c,l[i.toNat]?=some c:=⟨_,Ua (by omega)⟩;refine⟨_,_,?_,ZaR E .u8 _,m c q⟩;have A:=h.string o;have t:i.toNat<(⟨l.toArray⟩:ByteArray).size:=by simp[ByteArray.size];omega
  have F:(⟨l.toArray⟩:ByteArray)[i.toNat]?=some c:=by
   have Z:(⟨l.toArray⟩:ByteArray)[i.toNat]'t=c:=by
    have:=(Ub.1 q).2;rw[<-this];rfl
   rw[<-Z];exact getElem?_pos (⟨l.toArray⟩:ByteArray) i.toNat t
  intro w;simp[Instr.index,asIntOf,run_underlying A,g,F]
 ·rename_i n cs k i o
  simp only[den]at f L;obtain⟨vs,rfl,x⟩:=f;subst L;split at H
  ·rename_i l J
   split at H
   ·rename_i B
    simp only[Up,UO,Kb]at B;obtain⟨⟨y,z⟩,M⟩:=B;have N:=Zru cs J vs x;obtain⟨g,D,m⟩:=H;obtain⟨c,q⟩:∃c,l[i.toNat]?=some c:=⟨_,Ua (by omega)⟩;refine⟨_,_,?_,ZaR E .i64 c,m c q⟩;obtain⟨A,p,I,G,Y,_,_⟩:=h.array o;have e:∀w,(isAgg b.elem).run P w=.ok false w:=by
     intro w;cases C:P.underlying b.elem with
     |none=>simp[C]at p
     |some d =>
      rw[C]at p;have p:ZhF d=b.eagg:=by simpa using p
      rw[y]at p;unfold isAgg;rw[Sem.run_bind,run_underlying C];simp only[Result.andThen_ok,<-p];cases d<;>rfl
    have a:vs[i.toNat*I.size]?=some (.int .i64 c):=by
     rw[Y,z,Nat.mul_one,N];simp[q]
    have j:i<(n:Int):=by omega
    intro w;simp[Instr.index,asIntOf,run_underlying A,g,j,part,e,run_sizeOf G,a]
   ·exact H.elim
  ·exact H.elim
 ·exact H.elim
def ZgJ (r:List SV) (o:Option Operand) (d:Int) (K:Int->Prop):Prop :=
 match o with
 |none=>K d
 |some x=>JE r x λs=>match s with
  | .int _ n=>K n
  |_=>False
def ZrY (T:TI) (r:List SV) (x:SV) (o i:Option Operand) (H:List Entry) (K:SV->List Entry->Prop):Prop :=
 match T.kind with
 | .sl=>match x with
  | .sl t d=>if t.size=T.esize then ZgJ r o 0 λl=>ZgJ r i d.length λh=>0<=l/\l<=h/\h<=(d.length:Int)/\K (.sl t ((d.drop l.toNat).take (h.toNat-l.toNat))) H else False
  | .own I=>ZgN H I λe=>match e with
   | .arr _ t d=>if t.size=T.esize then ZgJ r o 0 λl=>ZgJ r i d.length λh=>0<=l/\l<=h/\h<=(d.length:Int)/\
     ZhD H I (.frz t d) λH'=>K (.sl t ((d.drop l.toNat).take (h.toNat-l.toNat))) H' else False
   | .frz t d=>if t.size=T.esize then ZgJ r o 0 λl=>ZgJ r i d.length λh=>0<=l/\l<=h/\h<=(d.length:Int)/\K (.sl t ((d.drop l.toNat).take (h.toNat-l.toNat))) H else False
   |_=>False
  | .nsl=>ZgJ r o 0 λl=>ZgJ r i 0 λh=>l=0/\h=0/\K .nsl H
  |_=>False
 | .str=>match x with
  | .str s=>ZgJ r o 0 λl=>ZgJ r i s.length λh=>0<=l/\l<=h/\h<=(s.length:Int)/\K (.str ((s.drop l.toNat).take (h.toNat-l.toNat))) H
  |_=>False
 |_=>False
variable {a:Act}
theorem Zbc {r:List SV} (L:Yf E r a.tmps.toList) {o:Option Operand} {d:Int} {K:Int->Prop} (h:ZgJ r o d K) :
  ∃n,K n/\(o=none/\n=d\/∃k,o.map a.eval=some (.int k n)):=by
 unfold ZgJ at h;split at h
 ·exact⟨d,h,.inl ⟨rfl,rfl⟩⟩
 ·rename_i x
  obtain⟨s,q,h⟩:=Yr L h;split at h
  ·rename_i k n
   simp only[den]at q;exact⟨n,h,.inr ⟨k,by simp[q]⟩⟩
  ·exact h.elim
variable (w:World)
theorem run_sliceBound (k:IntKind) (n:Int) (y:Nat) (c:BoundsCode) (h:0<=n) (d:n<=(y:Int):=by omega):(Instr.sliceBound (.int k n) y c).run P w=.ok n.toNat w:=by
 have:0<=n/\n<=(y:Int):=⟨h,d⟩;simp[Instr.sliceBound,asIntOf,this]
theorem Zee (sl:Bool) (len p:Nat) (o i:Option Value) (l h:Int) (H:0<=l) (d:l<=h) (f:h<=(p:Int))
  (q:o=none/\l=0\/∃k,o=some (.int k l)) (hh:i=none/\h=(len:Int)\/∃k,i=some (.int k h)) :
  (Instr.sliceBounds sl len p o i none).run P w=.ok (l.toNat,h.toNat,p) w:=by
 have e1:∀c,(match i with|some v=>Instr.sliceBound v p c|none=>pure len:Sem Nat).run P w=.ok h.toNat w:=by
  intro c;rcases hh with⟨rfl,rfl⟩|⟨k,rfl⟩
  ·simp
  ·exact run_sliceBound w k h p _ (by omega) f
 have e:∀c,(match o with|some v=>Instr.sliceBound v h.toNat c|none=>pure 0:Sem Nat).run P w=.ok l.toNat w:=by
  intro c;rcases q with⟨rfl,rfl⟩|⟨k,rfl⟩
  ·simp
  ·exact run_sliceBound w k l _ _ H
 rcases hh with⟨rfl,rfl⟩|⟨k,rfl⟩
 ·rcases q with⟨rfl,rfl⟩|⟨K,rfl⟩
  ·simp[Instr.sliceBounds]
  ·simp[Instr.sliceBounds,run_sliceBound w K l _ _ H d]
 ·have a1:=run_sliceBound (P:=P) w k h p (if sl then .sliceAcap else .sliceAlen) (by omega) f
  rcases q with⟨rfl,rfl⟩|⟨K,rfl⟩
  ·simp[Instr.sliceBounds,a1]
  ·have a:=run_sliceBound (P:=P) w K l h.toNat .sliceB H
   simp[Instr.sliceBounds,a1,a]
theorem ZyU {S:Nat->Prop} {w:World} {t:Ty} {d:List t.den} {a:Option Addr} {n c:Nat} (h:rep S w (.sl t) d [.slice a n c]) (l b:Nat) (o:l<=b:=by omega) (m:b<=d.length:=by omega) :
  n=d.length/\d.length<=c/\rep S w (.sl t) ((d.drop l).take (b-l)) [.slice (if c=l then a else a.map (·.add (l*t.size))) (b-l) (c-l)]:=by
 obtain⟨A,C,e1,i,W,g⟩:=h;simp at e1;obtain⟨rfl,rfl,rfl⟩:=e1;refine⟨rfl,i,?_⟩;have H:((d.drop l).take (b-l)).length=b-l:=by simp;omega
 refine⟨_,c-l,by rw[H],by rw[H];omega,λe=>?_,?_⟩
 ·split at e
  ·have:=W e;omega
  ·cases a with
   |none=>have:=W rfl;omega
   |some p=>simp at e
 ·by_cases r:b=l
  ·exact .inl (UC (by rw[H];omega))
  ·rcases g with g|⟨p,xs,rfl,k,s,q,E⟩
   ·subst g;simp at m;omega
   ·refine .inr ⟨p.add (l*t.size),(xs.drop (l*t.size)).take ((b-l)*t.size),?_,ZpQ _ _ k,by rw[add_block];exact s,λj u f=>?_,?_⟩
    ·rw[Qu];rfl
    ·rw[add_add _ _ _ k]
     rw[UB]at f;split at f
     ·exact q _ u (by simpa using f)
     ·cases f
    ·have:=Zj8 (λd vs=>X3 t d vs) _ _ E l
     exact Zj9 (λd vs=>X3 t d vs) _ _ this (b-l)
theorem Zoi (F:Inv B E H) {R:List SV} (L:Yf E R a.tmps.toList) {M:TI} (h:Zdi P T M) (Z:den E x v)
  {J G:Option Operand} {K:SV->List Entry->Prop} (b:ZrY M R x J G H K) :
  ∃u E' H' s,(Instr.sliceAt T v (J.map a.eval) (G.map a.eval) none).run P E.w=.ok u E'.w/\Inv B E' H'/\E.le E'/\den E' s u/\K s H'/\Grow E.w E'.w:=by
 unfold ZrY at b;have c:∀{o:Option Operand} {n d:Int},(o=none/\n=d\/∃k,o.map a.eval=some (.int k n))->(o.map a.eval=none/\n=d\/∃k,o.map a.eval=some (.int k n)):=by
  intro o n d hh;rcases hh with⟨rfl,e⟩|hh
  ·exact .inl ⟨rfl,e⟩
  ·exact .inr hh
 have core:M.kind=.sl->∀(E1:Env) (t:Ty) (d:List t.den),t.size=M.esize->rep E1.S E1.w (.sl t) d [v]->∀l h:Int,0<=l->l<=h->h<=(d.length:Int)->
   (J.map a.eval=none/\l=0\/∃k,J.map a.eval=some (.int k l))->(G.map a.eval=none/\h=(d.length:Int)\/∃k,G.map a.eval=some (.int k h))->
   ∃u,(Instr.sliceAt T v (J.map a.eval) (G.map a.eval) none).run P E1.w=.ok u E1.w/\den E1 (.sl t ((d.drop l.toNat).take (h.toNat-l.toNat))) u:=by
  intro f E1 t d i D l j r y z q hh;obtain⟨I,_,U,A,Y,_⟩:=h.slice f;obtain⟨a0,p,e1,C,W,V⟩:=D;simp at e1;subst e1;obtain⟨_,_,O⟩:=ZyU (⟨a0,p,rfl,C,W,V⟩:rep E1.S E1.w (.sl t) d [.slice a0 d.length p]) l.toNat j.toNat;refine⟨.slice (if p=l.toNat then a0 else a0.map (·.add (l.toNat*U.size))) (j.toNat-l.toNat) (p-l.toNat),?_,?_⟩
  ·simp only[Instr.sliceAt,Instr.slice,Sem.run_bind,run_underlying I,Result.andThen_ok]
   rw[Zee E1.w true d.length p _ _ l j r y (by omega) q hh];simp only[Result.andThen_ok,run_sizeOf A];rfl
  ·simp only[den]
   rw[Y,<-i];exact O
 split at b
 ·rename_i f
  split at b
  ·rename_i t d
   split at b
   ·rename_i i
    obtain⟨l,b,q⟩:=Zbc L b;obtain⟨j,b,hh⟩:=Zbc L b;obtain⟨r,y,z,b⟩:=b;simp only[den]at Z;obtain⟨u,D,g⟩:=core f E t d i Z l j r y z (c q) (c hh);exact⟨u,E,H,_,D,F,Env.le.refl E,g,b,Grow.refl _⟩
   ·exact b.elim
  ·rename_i X
   obtain⟨en,Q,b⟩:=Y0 H b;simp only[den]at Z;split at b
   ·rename_i et t d
    split at b
    ·rename_i i
     obtain⟨l,b,q⟩:=Zbc L b;obtain⟨j,b,hh⟩:=Zbc L b;obtain⟨r,y,z,b⟩:=b;rw[Xu]at b;obtain⟨S',C,N,D,_⟩:=F.freeze Q Z.1;obtain⟨u,m,g⟩:=core f ⟨S',E.w,E.ids⟩ t d i D l j r y z (c q) (c hh);exact⟨u,_,_,_,m,N,C,g,b,Grow.refl _⟩
    ·exact b.elim
   ·rename_i t d
    split at b
    ·rename_i i
     obtain⟨l,b,q⟩:=Zbc L b;obtain⟨j,b,hh⟩:=Zbc L b;obtain⟨r,y,z,b⟩:=b;obtain⟨v',e1,D⟩:=F.ent X _ Q;have:=Z.1.symm.trans e1;simp at this;subst this;obtain⟨u,m,g⟩:=core f E t d i D l j r y z (c q) (c hh);exact⟨u,E,H,_,m,F,Env.le.refl E,g,b,Grow.refl _⟩
    ·exact b.elim
   ·exact b.elim
  ·obtain⟨l,b,q⟩:=Zbc L b
   obtain⟨j,b,hh⟩:=Zbc L b;obtain⟨rfl,rfl,b⟩:=b;simp only[den]at Z;subst Z;obtain⟨I,_,U,A,Y,_⟩:=h.slice f;refine⟨.slice none 0 0,E,H,.nsl,?_,F,Env.le.refl E,by simp only[den],b,Grow.refl _⟩;simp only[Instr.sliceAt,Instr.slice,Sem.run_bind,run_underlying I,Result.andThen_ok];rw[Zee E.w true 0 0 _ _ 0 0 (by omega) (by omega) (by omega) (c q) (c hh)];simp[run_sizeOf A]
  ·exact b.elim
 ·rename_i f
  split at b
  ·rename_i s
   obtain⟨l,b,q⟩:=Zbc L b;obtain⟨j,b,hh⟩:=Zbc L b;obtain⟨r,y,z,b⟩:=b;simp only[den]at Z;subst Z;have I:=h.string f;have Y:(⟨s.toArray⟩:ByteArray).size=s.length:=by simp[ByteArray.size]
   refine⟨_,E,H,_,?_,F,Env.le.refl E,Zlg E _,b,Grow.refl _⟩;simp only[Instr.sliceAt,Instr.slice,Sem.run_bind,run_underlying I,Result.andThen_ok,Option.isSome_none,UN,Uj,Y];rw[Zee E.w false s.length s.length _ _ l j r y z (c q) (c hh)];simp only[Result.andThen_ok,Sem.run_pure];congr 2;apply ByteArray.ext;simp[ByteArray.data_extract,List.extract_toArray,List.extract_eq_take_drop]
  ·exact b.elim
 ·exact b.elim
end
theorem Zl4 {S:Nat->Prop} {w:World} {t:Ty}:∀(l:List t.den) (xs:List Value) (f:List Nat),Zai (ZgF S w (.flat t)) l xs f->f=[]/\QH (rep S w t) l xs
 |[],xs,f,h=>⟨h.2,h.1⟩
 |d::l,xs,f,⟨v1,v,f1,f2,e,E,r,s⟩=>by
  obtain⟨H,a⟩:=Zl4 l v f2 s;have g:f1=[]:=r.1;exact⟨by rw[E,H,g];rfl,v1,v,e,r.2,a⟩
theorem Zmt {S:Nat->Prop} {w:World} {t:Ty}:∀(l:List t.den) (xs:List Value),QH (rep S w t) l xs->Zai (ZgF S w (.flat t)) l xs []
 |[],xs,h=>⟨h,rfl⟩
 |d::l,xs,⟨v1,v,e,r,s⟩=>⟨v1,v,[],[],e,rfl,⟨rfl,r⟩,Zmt l v s⟩
def Vj:(e:Dp)->e.ty.den->List Entry->(List SV->List Entry->Prop)->Prop
 | .flat t,x,H,K=>Vv t x λcs=>K cs H
 | .ol c (.flat t),l,H,K=>ZgX c t l H λs H'=>K [s] H'
 | .ol c (.ol E e),l,H,K=>∀f:List Nat,Zsg H 0 λn=>ZpT H [.darr c (.ol E e) l f] λH'=>K [.own n] H'
 | .ol c (.pair a b),l,H,K=>∀f:List Nat,Zsg H 0 λn=>ZpT H [.darr c (.pair a b) l f] λH'=>K [.own n] H'
 | .ol c (.mp k v),l,H,K=>∀f:List Nat,Zsg H 0 λn=>ZpT H [.darr c (.mp k v) l f] λH'=>K [.own n] H'
 | .mp k v,d,H,K=>Zsg H 0 λn=>ZpT H [.mpe k v d] λH'=>K [.mown n] H'
 | .pair a b,d,H,K=>Zx d λx y=>Vj a x H λc1 H1=>Vj b y H1 λc2 H2=>ZpT c1 c2 λcs=>K cs H2
variable {E:Env} {I:Nat}
theorem Zn4 {e:TypeId} {z n:Nat} {v:Value} {xs:List Value} (h:E.ids[I]?=some v) (H:E.w.Jr 0 e z v n xs):den E (.own I) v:=by
 simp only[den];refine⟨h,?_⟩;rcases H.2 with⟨rfl,_⟩|⟨g,c,cur,o,rfl,_⟩
 ·exact⟨_,_,_,rfl⟩
 ·exact⟨_,_,_,rfl⟩
theorem Jc {B:Base}:∀(e:Dp) (x:e.ty.den) {E:Env} {H:List Entry} (_:Inv B E H) {vs:List Value} {f gs:List Nat} (_:ZgF E.S E.w e x vs f) (_:Loose B E H (f++gs)) {K:List SV->List Entry->Prop} (_:Vj e x H K),
  ∃E' H' cs,E'.w=E.w/\E'.S=E.S/\Inv B E' H'/\E.le E'/\Yf E' cs vs/\K cs H'/\Loose B E' H' gs/\∃l,H'=H++l
 | .flat t,x,E,H,m,vs,f,gs,⟨e1,r⟩,n,K,h=>by
  simp only[Vj,Qg]at h;subst e1;exact⟨E,H,_,rfl,rfl,m,Env.le.refl E,XB t x vs r,h,n,[],by simp⟩
 | .ol u (.flat t),l,E,H,m,vs,f,gs,⟨v,xs,s,e1,o,r,k⟩,n,K,h=>by
  simp only[Vj,ZgX,Zb7,ZaQ,Uw]at h;obtain⟨W,D⟩:=Zl4 _ _ _ r;have c:(E.ids++[v])[H.length]?=some v:=by rw[<-m.len];simp
  obtain ⟨q,i⟩:=n.push m v (.arr u t l) (λ_ g j=>by
   have j:Yv v=some g:=j;rw[k];simp[j]) ⟨v,xs,c,o,D⟩
  exact⟨⟨E.S,E.w,E.ids++[v]⟩,_,_,rfl,rfl,q,ZjA E v,by subst e1;exact⟨Zn4 c o,trivial⟩,h,i,_,rfl⟩
 | .ol u (.ol A e),l,E,H,m,vs,f,gs,⟨v,xs,s,e1,o,r,k⟩,n,K,h=>by
  simp only[Vj]at h;have h:=h f;simp only[Zb7,ZaQ,Uw]at h;have c:(E.ids++[v])[H.length]?=some v:=by rw[<-m.len];simp
  obtain⟨q,i⟩:=n.push m v (.darr u (.ol A e) l f) (λ_ g j=>j) ⟨v,xs,s,c,o,r,k,(UW.1 n.nodup).1⟩;exact⟨⟨E.S,E.w,E.ids++[v]⟩,_,_,rfl,rfl,q,ZjA E v,by subst e1;exact⟨Zn4 c o,trivial⟩,h,i,_,rfl⟩
 | .ol u (.pair a b),l,E,H,m,vs,f,gs,⟨v,xs,s,e1,o,r,k⟩,n,K,h=>by
  simp only[Vj]at h;have h:=h f;simp only[Zb7,ZaQ,Uw]at h;have c:(E.ids++[v])[H.length]?=some v:=by rw[<-m.len];simp
  obtain⟨q,i⟩:=n.push m v (.darr u (.pair a b) l f) (λ_ g j=>j) ⟨v,xs,s,c,o,r,k,(UW.1 n.nodup).1⟩;exact⟨⟨E.S,E.w,E.ids++[v]⟩,_,_,rfl,rfl,q,ZjA E v,by subst e1;exact⟨Zn4 c o,trivial⟩,h,i,_,rfl⟩
 | .ol u (.mp U V),l,E,H,m,vs,f,gs,⟨v,xs,s,e1,o,r,k⟩,n,K,h=>by
  simp only[Vj]at h;have h:=h f;simp only[Zb7,ZaQ,Uw]at h;have c:(E.ids++[v])[H.length]?=some v:=by rw[<-m.len];simp
  obtain⟨q,i⟩:=n.push m v (.darr u (.mp U V) l f) (λ_ g j=>j) ⟨v,xs,s,c,o,r,k,(UW.1 n.nodup).1⟩;exact⟨⟨E.S,E.w,E.ids++[v]⟩,_,_,rfl,rfl,q,ZjA E v,by subst e1;exact⟨Zn4 c o,trivial⟩,h,i,_,rfl⟩
 | .mp U V,d,E,H,m,vs,f,gs,⟨b,X,C,e1,k,hh,r⟩,n,K,h=>by
  simp only[Vj,Zb7,ZaQ,Uw]at h;have c:(E.ids++[(.map (some b):Value)])[H.length]?=some (.map (some b)):=by rw[<-m.len];simp
  obtain ⟨q,i⟩:=n.push m (.map (some b)) (.mpe U V d) (λ_ g j=>by
   have j:Yv (.map (some b))=some g:=j;simp[Yv] at j;rw[k];simp[j]) ⟨b,X,C,c,hh,r⟩
  exact⟨⟨E.S,E.w,E.ids++[.map (some b)]⟩,_,_,rfl,rfl,q,ZjA E _,by subst e1;exact⟨by simp only[den];exact⟨c,_,rfl⟩,trivial⟩,h,i,_,rfl⟩
 | .pair a b,d,E,H,m,vs,f,gs,⟨v1,v2,f1,f2,e1,k,W,D⟩,n,K,h=>by
  simp only[Vj,V3]at h;subst e1;subst k;rw[Un]at n;obtain⟨E1,H1,c1,z,y,I,F,O,h,L,Y,Q⟩:=Jc a d.1 m W n h;have G:ZgF E1.S E1.w b d.2 v2 f2:=by rw[y,z];exact D
  obtain⟨E2,H2,c2,T,N,J,p,P,h,M,Z,R⟩:=Jc b d.2 I G L h;rw[ZaQ]at h;exact⟨E2,H2,_,T.trans z,N.trans y,J,F.trans p,ZaS _ _ (ZO p _ _ O) _ _ P,h,M,Y++Z,by rw[R,Q,Un]⟩
def ZAB (c:TypeId):(e:Dp)->Nat->List e.ty.den->List Entry->(List Entry->Prop)->Prop
 | .flat t,I,d,H,K=>ZhD H I (.arr c t d) K
 | .ol E e,I,d,H,K=>∀f:List Nat,ZhD H I (.darr c (.ol E e) d f) K
 | .pair a b,I,d,H,K=>∀f:List Nat,ZhD H I (.darr c (.pair a b) d f) K
 | .mp k v,I,d,H,K=>∀f:List Nat,ZhD H I (.darr c (.mp k v) d f) K
theorem Zw7 {B:Base} {u:TypeId}:∀(e:Dp) {E:Env} {H:List Entry} (_:Inv B E H) {I:Nat} {v:Value} (_:I<H.length) (_:E.ids[I]?=some v) {d:List e.ty.den} {f gs:List Nat} (_:ZgF E.S E.w (.ol u e) d [v] f) (_:Loose B E H (f++gs)) {K:List Entry->Prop} (_:ZAB u e I d H K),
  ∃e1,Inv B E (H.set I e1)/\Loose B E (H.set I e1) gs/\K (H.set I e1)/\(∀c,e1≠.box c)
 | .flat t,E,H,p,I,v,i,l,d,f,gs,⟨v',xs,s,j,q,r,o⟩,n,K,k=>by
  simp only[ZAB,Xu] at k;simp at j;subst j;obtain ⟨D,A⟩:=Zl4 _ _ _ r;obtain ⟨a,b⟩:=n.put p i l (.arr u t d) (λ_ g m=>by
   have m:Yv v=some g:=m;rw[o];simp[m]) ⟨v,xs,l,q,A⟩
  exact⟨_,a,b,k,λc h=>by cases h⟩
 | .ol z e,E,H,p,I,v,i,l,d,f,gs,⟨v',xs,s,j,q,r,o⟩,n,K,k=>by
  simp only[ZAB]at k;have k:=k f;rw[Xu]at k;simp at j;subst j;obtain⟨a,b⟩:=n.put p i l (.darr u (.ol z e) d f) (λ_ g m=>m) ⟨v,xs,s,l,q,r,o,(UW.1 n.nodup).1⟩;exact⟨_,a,b,k,λc h=>by cases h⟩
 | .mp C V,E,H,p,I,v,i,l,d,f,gs,⟨v',xs,s,j,q,r,o⟩,n,K,k=>by
  simp only[ZAB]at k;have k:=k f;rw[Xu]at k;simp at j;subst j;obtain⟨x,y⟩:=n.put p i l (.darr u (.mp C V) d f) (λ_ g m=>m) ⟨v,xs,s,l,q,r,o,(UW.1 n.nodup).1⟩;exact⟨_,x,y,k,λc h=>by cases h⟩
 | .pair a b,E,H,p,I,v,i,l,d,f,gs,⟨v',xs,s,j,q,r,o⟩,n,K,k=>by
  simp only[ZAB]at k;have k:=k f;rw[Xu]at k;simp at j;subst j;obtain⟨x,y⟩:=n.put p i l (.darr u (.pair a b) d f) (λ_ g m=>m) ⟨v,xs,s,l,q,r,o,(UW.1 n.nodup).1⟩;exact⟨_,x,y,k,λc h=>by cases h⟩
def Zso {E e:Dp} (h:E=e) (d:List E.ty.den) (K:List e.ty.den->Prop):Prop:=Eq.rec (motive:=λe _=>(List e.ty.den->Prop)->Prop) (λK=>K d) h K
variable {e:Dp}
theorem Zi7 {E:Dp} (h:E=e) (d:List E.ty.den) (K:List e.ty.den->Prop):Zso h d K=K (h▸d):=by subst h;rfl
def Zr5:Nat->List SV->(List SV->List SV->Prop)->Prop
 |0,cs,K=>K [] cs
 |n+1,cs,K=>match cs with
  |c::cs=>Zr5 n cs λa b=>K (c::a) b
  |[]=>False
theorem Zr6 {E:Env}:∀(n:Nat) (cs:List SV) (vs:List Value),Yf E cs vs->∀{K:List SV->List SV->Prop},Zr5 n cs K->∃a b V d,vs=V++d/\Yf E a V/\Yf E b d/\K a b
 |0,cs,vs,L,K,H=>⟨[],cs,[],vs,rfl,trivial,L,H⟩
 |n+1,[],vs,L,K,H=>by simp only[Zr5]at H
 |n+1,c::cs,vs,L,K,H=>by
  match vs,L with
  |v::vs,L =>
   simp only[Yf]at L;simp only[Zr5]at H;obtain⟨a,b,V,d,e,h,f,g⟩:=Zr6 n cs vs L.2 H;exact⟨c::a,b,v::V,d,by rw[e];rfl,⟨L.1,h⟩,f,g⟩
  |[],L=>simp[Yf]at L
def Jd:(e:Dp)->List SV->List Entry->(e.ty.den->List SV->List Entry->Prop)->Prop
 | .flat t,cs,H,K=>Zr5 t.size cs λc1 c2=>VD c1 H λC H'=>X0 t C λd R=>match R with
   |[]=>K d c2 H'
   |_=>False
 | .ol f e,cs,H,K=>match cs with
   |s::r=>match s with
    | .nsl=>K [] r H
    | .own I=>ZgN H I λg=>match g with
     | .arr E t d=>if h:Dp.flat t=e then(if E=f then ZhD H I .gone λH'=>Zso h d λD=>K D r H' else False)else False
     | .darr E c d _=>if h:c=e then(if E=f then ZhD H I .gone λH'=>Zso h d λD=>K D r H' else False)else False
     | .hole E c d i cells _=>if h:c=e then (if E=f then ZhD H I .gone λH0=>Zso h d λD=>Jd e cells H0 λx R H1=>match R with
       |[]=>K (D.set i.toNat x) r H1
       |_=>False
      else False) else False
     | .spl E c d n _=>if h:c=e then(if E=f then(n=(d.length:Int)/\ZhD H I .gone λH'=>Zso h d λD=>K D r H')else False)else False
     |_=>False
    |_=>False
   |[]=>False
 | .mp k v,cs,H,K=>match cs with
   |s::r=>match s with
    | .mown I=>ZgN H I λg=>match g with
     | .mpe j v' d=>if h:j=k then(if h':v'=v then ZhD H I .gone λH'=>ZB1 h h' d λD=>K D r H' else False)else False
     |_=>False
    |_=>False
   |[]=>False
 | .pair a b,cs,H,K=>Jd a cs H λx r H1=>Jd b r H1 λy l H2=>K (x,y) l H2
def Closed (B:Base) (e:Dp) (E:Env) (H:List Entry) (vs:List Value) (gs:List Nat) (K:e.ty.den->List SV->List Entry->Prop):Prop :=
 ∃E' H' x R v1 v f,Frz E H E' H'/\Inv B E' H'/\vs=v1++v/\ZgF E'.S E'.w e x v1 f/\Yf E' R v/\K x R H'/\Loose B E' H' (f++gs)/\Zju E H H' f/\∀(i:Nat) (c:List SV),H[i]?=some (.box c)->H'[i]?=some (.box c)
variable {H:List Entry} {n:Entry}
theorem Zww (h:H[I]?=some n):(H.set I .gone)[I]?=some .gone:=UF (Ub.1 h).1
theorem Zix {e1:Entry} (h:H[I]?=some n) (b:∀c,n≠.box c):∀(i:Nat) (c:List SV),H[i]?=some (.box c)->(H.set I e1)[i]?=some (.box c):=by
 intro i c l;by_cases a:I=i
 ·subst a;rw[h]at l;simp at l;exact absurd l (b c)
 ·rw[UH a];exact l
theorem Zco {B:Base}:∀(e:Dp) (cs:List SV) {E:Env} {H:List Entry} (_:Inv B E H) {vs:List Value} (_:Yf E cs vs) {gs:List Nat} (_:Loose B E H gs) {K:e.ty.den->List SV->List Entry->Prop} (_:Jd e cs H K),Closed B e E H vs gs K
 | .flat t,cs,E,H,C,vs,L,gs,P,K,l=>by
  simp only[Jd]at l;obtain⟨c1,c2,va,vb,e1,h1,G,l⟩:=Zr6 _ _ _ L l;obtain⟨E',H',a4,A,U,b4,l,X⟩:=Qw c1 C h1 l;obtain⟨d,a3,u1,u2,e2,hr,D,l⟩:=XD t a4 _ va b4 l;split at l
  ·have a0:u2=[]:=by cases u2 with
    |nil=>rfl
    |cons=>simp[Yf]at D
   subst a0;rw[Um]at e2;subst e2;exact⟨E',H',d,c2,va,vb,[],A,U,e1,⟨rfl,hr⟩,ZO A.le _ _ G,l,P.frz A,Zju.nil _ _ _,X⟩
  ·exact l.elim
 | .ol et e,cs,E,H,C,vs,L,gs,P,K,l=>by
  simp only[Jd]at l;split at l
  ·rename_i s r
   match vs,L with
   |[],L=>simp[Yf]at L
   |v::vs,L =>
    simp only[Yf]at L;obtain⟨k,o⟩:=L;split at l
    ·simp only[den]at k;subst k
     exact⟨E,H,[],r,[_],vs,[],Frz.refl E H,C,rfl,⟨_,[],[],rfl,World.Zjd _ _ _ _,⟨rfl,rfl⟩,rfl⟩,o,l,P,Zju.nil _ _ _,λ_ _ h=>h⟩
    ·rename_i I
     obtain⟨en,p,q⟩:=Y0 H l;clear l;simp only[den]at k;have T:∀(f:List Nat),en.live=true->f.Nodup->(∀g∈f,Zhi en v g)->Frz E H E (H.set I .gone)/\Inv B E (H.set I .gone)/\Loose B E (H.set I .gone) (f++gs)/\Zju E H (H.set I .gone) f:=by
      intro f hl Y A;exact⟨Frz.one p hl k.1 rfl (Env.le.refl E) (λb X=>.inl X),C.drop I,P.take C p hl k.1 Y A,λg m=>⟨I,en,v,p,hl,k.1,A g m,Zww p⟩⟩
     split at q
     ·rename_i R t d
      split at q
      ·rename_i O;subst O
       split at q
       ·rename_i u;subst u
        rw[Xu,Zi7] at q;obtain ⟨v',xs,e1,G,h3⟩:=C.ent I _ p;have:=k.1.symm.trans e1;simp at this;subst this;obtain ⟨Q,t2,t3,t4⟩:=T (Yv v).toList rfl (by cases Yv v<;>simp) (λg m=>by
         show Yv v=some g;simpa using m)
        exact⟨E,_,d,r,[v],vs,(Yv v).toList,Q,t2,rfl,⟨v,xs,[],rfl,G,Zmt _ _ h3,by simp⟩,o,q,t3,t4,Zix p (λc h=>by cases h)⟩
       ·exact q.elim
      ·exact q.elim
     ·rename_i R e' d N
      split at q
      ·rename_i O;subst O
       split at q
       ·rename_i u;subst u
        rw[Xu,Zi7]at q;obtain⟨v',xs,a6,e1,G,h3,h4,h5⟩:=C.ent I _ p;have:=k.1.symm.trans e1;simp at this;subst this;obtain⟨Q,t2,t3,t4⟩:=T N rfl h5 (λg m=>m);exact⟨E,_,d,r,[v],vs,N,Q,t2,rfl,⟨v,xs,a6,rfl,G,h3,h4⟩,o,q,t3,t4,Zix p (λc h=>by cases h)⟩
       ·exact q.elim
      ·exact q.elim
     ·rename_i R e' d i cells N
      split at q
      ·rename_i O;subst O
       split at q
       ·rename_i u;subst u
        rw[Xu,Zi7]at q;obtain⟨v',xs,x1,vx,x2,f1,f2,e1,G,b8,b9,ex,el,b7,F,z,b5,ef,Y⟩:=C.ent I _ p;have:=k.1.symm.trans e1;simp at this;subst this;obtain⟨Q,t2,t3,t4⟩:=T N rfl Y (λg m=>m);obtain⟨E',H',x,a3,u1,u2,f,A,U,eu,b6,D,q,a9,hT,X⟩:=Zco e' cells t2 b5 t3 q;split at q
        ·have a0:u2=[]:=by cases u2 with
          |nil=>rfl
          |cons=>simp[Yf]at D
         subst a0;rw[Um]at eu;subst eu;have Z:(f++(N++gs)).Perm ((Yv v).toList++(f1++f++f2)++gs):=by
          rw[ef];refine List.Perm.trans ?_ (List.Perm.refl _);rw[<-Un];refine List.Perm.append_right gs ?_;have:(f++((Yv v).toList++f1++f2)).Perm ((Yv v).toList++f1++(f++f2)):=by
           rw[<-Un,<-Un ((Yv v).toList++f1)];exact UU.append_right f2
          refine this.trans ?_;simp[Un]
         have M:∀(g:Nat),E'.w.heap[g]?=E.w.heap[g]?:=λg=>by rw[A.w]
         refine⟨E',H',d.set i.toNat x,r,[v],vs,(Yv v).toList++(f1++f++f2),Q.trans A,U,rfl,⟨v,x1++vx++x2,f1++f++f2,rfl,?_,?_,rfl⟩,ZO A.le _ _ o,q,a9.perm Z,?_,λj c hj=>X j c (Zix p (λc h=>by cases h) j c hj)⟩
         ·rw[UZ,<-ex,A.w];exact G
         ·refine Zu6 (by omega) (X4 _ _ _ (λd vs f _=>Yw A.le.S A.le.w e' d vs f (λg _=>M g)) F) b6 ?_
          exact X4 _ _ _ (λd vs f _=>Yw A.le.S A.le.w e' d vs f (λg _=>M g)) z
         ·have V:Zju E H H' N:=t4.later A
          have W:Zju E H H' f:=Zju.after Q hT;refine(V.append W).sub (λg m=>?_);rw[ef];simp only[Uu]at m ⊢;rcases m with m|(m|m)|m
          ·exact .inl (.inl (.inl m))
          ·exact .inl (.inl (.inr m))
          ·exact .inr m
          ·exact .inl (.inr m)
        ·exact q.elim
       ·exact q.elim
      ·exact q.elim
     ·rename_i R e' d n N
      split at q
      ·rename_i O;subst O
       split at q
       ·rename_i u;subst u
        obtain⟨hn,q⟩:=q;rw[Xu,Zi7]at q;obtain⟨v',e1,⟨xs,x1,x2,f1,G,h3,h4,ex,el,F,z,ef⟩,h5⟩:=C.ent I _ p;have:=k.1.symm.trans e1;simp at this;subst this;have a2:n.toNat=d.length:=by omega
        rw[a2,Ur]at F;rw[a2,List.drop_length]at z;have z:x2=[]:=z;subst z;rw[Um]at ex;subst ex;obtain⟨Q,t2,t3,t4⟩:=T N rfl h5 (λg m=>m);exact⟨E,_,d,r,[v],vs,N,Q,t2,rfl,⟨v,xs,f1,rfl,G,F,ef⟩,o,q,t3,t4,Zix p (λc h=>by cases h)⟩
       ·exact q.elim
      ·exact q.elim
     ·exact q.elim
    ·exact l.elim
  ·exact l.elim
 | .mp kt vt,cs,E,H,C,vs,L,gs,P,K,l=>by
  simp only[Jd]at l;split at l
  ·rename_i s r
   match vs,L with
   |[],L=>simp[Yf]at L
   |v::vs,L =>
    simp only[Yf]at L;obtain⟨k,o⟩:=L;split at l
    ·rename_i I
     obtain⟨en,p,q⟩:=Y0 H l;clear l;simp only[den]at k;split at q
     ·rename_i k' v' d
      split at q
      ·rename_i O;subst O
       split at q
       ·rename_i u;subst u
        rw[Xu] at q;have q:K d r (H.set I .gone):=q;obtain ⟨b,es,a5,e1,G,h3⟩:=C.ent I _ p;have:=k.1.symm.trans e1;simp at this;subst this;exact ⟨E,_,d,r,[.map (some b)],vs,[b],Frz.one p rfl k.1 rfl (Env.le.refl E) (λb X=>.inl X),C.drop I,rfl,⟨b,es,a5,rfl,rfl,G,h3⟩,o,q,
         P.take C p rfl k.1 (by simp) (λg m=>by simp at m;subst m;rfl),λg m=>⟨I,_,_,p,rfl,k.1,by simp at m;subst m;rfl,Zww p⟩,Zix p (λc h=>by cases h)⟩
       ·exact q.elim
      ·exact q.elim
     ·exact q.elim
    ·exact l.elim
  ·exact l.elim
 | .pair a b,cs,E,H,C,vs,L,gs,P,K,l=>by
  simp only[Jd]at l;obtain⟨E1,H1,x,r,v1,v2,f1,a1,a7,e1,F,k,l,b0,V,b2⟩:=Zco a cs C L P l;obtain⟨E2,H2,y,r',v3,v4,f2,J,a8,e2,z,o,l,b1,W,b3⟩:=Zco b r a7 k b0 l;refine⟨E2,H2,(x,y),r',v1++v3,v4,f1++f2,a1.trans J,a8,by rw[e1,e2,Un],⟨v1,v3,f1,f2,rfl,rfl,?_,z⟩,o,l,?_,(V.later J).append (Zju.after a1 W),λi c h=>b3 i c (b2 i c h)⟩
  ·exact Yw J.le.S J.le.w a _ _ _ (λg _=>by rw[J.w]) F
  ·refine b1.perm ?_
   rw[<-Un];exact UU.append_right gs
def closeAll (e:Dp) (cs:List SV) (H:List Entry) (K:e.ty.den->List Entry->Prop):Prop:=Jd e cs H λx R H1=>match R with
 |[]=>K x H1
 |_=>False
theorem Vl {B:Base} {cs:List SV} (o:Inv B E H) {vs:List Value} (L:Yf E cs vs) {gs:List Nat} (p:Loose B E H gs) {K:e.ty.den->List Entry->Prop} (h:closeAll e cs H K) :
  ∃E' H' x f,Frz E H E' H'/\Inv B E' H'/\ZgF E'.S E'.w e x vs f/\K x H'/\Loose B E' H' (f++gs)/\Zju E H H' f/\∀(i:Nat) (c:List SV),H[i]?=some (.box c)->H'[i]?=some (.box c):=by
 obtain⟨E',H',x,R,v1,v,f,d,a,g,b,j,h,k,l,n⟩:=Zco e cs o L p h;split at h
 ·have m:v=[]:=by cases v with
   |nil=>rfl
   |cons=>simp[Yf]at j
  subst m;rw[Um]at g;subst g;exact⟨E',H',x,f,d,a,b,h,k,l,n⟩
 ·exact h.elim
section
variable {P:Program}
variable {E:Env} {I:Nat} {t:TypeId} {e:Dp} {i:Int}
theorem ZAh {d:List e.ty.den} {cells:List SV} {F:List Nat} (h:Ztz E I (.hole t e d i cells F)) :
  ∃b o n c x,E.ids[I]?=some (.slice (some ⟨b,o,none⟩) n c)/\Yf E cells x/\x.length=e.ty.size/\∀j u,x[j]?=some u->E.w.cell? ((⟨b,o+i.toNat*e.ty.size,none⟩:Addr).add j)=some u:=by
 obtain⟨v,xs,X,x,C,f1,f2,e1,f,m,y,ex,l,a,z,A,H,B,s⟩:=h;rcases f.2 with⟨rfl,W⟩|⟨g,p,cur,o,rfl,_⟩
 ·omega
 ·refine⟨g,o,_,p,x,e1,H,a,λj u k=>?_⟩
  have q:=f.Zgh rfl;have r:xs[i.toNat*e.ty.size+j]?=some u:=by
   rw[ex,Un,UY (by omega),l,show i.toNat*e.ty.size+j-i.toNat*e.ty.size=j by omega,Uy (Ub.1 k).1];exact k
  have:=q _ u r;rw[add_eq]at this ⊢;rw[Nat.add_assoc];exact this
def reopen (c:TypeId) (e:Dp) (I:Nat) (i:Int) (H:List Entry) (K:List SV->List Entry->Prop):Prop :=
 closeAll (.ol c e) [.own I] H λd H0=>Zjj d i λx=>Vj e x H0 λcells H1=>∀f:List Nat,ZhD H1 I (.hole c e d i cells f) λH2=>K cells H2
def Zt8 (I:Nat) (i:Int) (H:List Entry) (K:List SV->List Entry->Prop):Prop :=
 ZgN H I λC=>match C with
 | .darr c e _ _=>reopen c e I i H K
 | .hole c e _ j cells _=>(i=j/\K cells H)\/reopen c e I i H K
 |_=>False
def Zzm (B:Base) (E:Env) (H:List Entry) (I:Nat) (i:Int) (K:List SV->List Entry->Prop):Prop :=
 ∃E' H' c e d cells f,E'.w=E.w/\Inv B E' H'/\E.le E'/\H'[I]?=some (.hole c e d i cells f)/\K cells H'
variable {B:Base} {H:List Entry} {v:Value} {K:List SV->List Entry->Prop}
theorem ZrP (R:Inv B E H) (u:den E (.own I) v) (h:reopen t e I i H K):Zzm B E H I i K:=by
 unfold reopen at h;obtain⟨E1,H1,d,f,q,A,s,h,T,hT,hb⟩:=Vl R (show Yf E [.own I] [v]from⟨u,trivial⟩) (gs:=[]) ⟨KM,λg n=>by simp at n,λg n=>by simp at n⟩ h;simp only[den]at u;obtain⟨v',xs,O,z,V,s,N⟩:=s;simp at z;subst z;obtain⟨x,y,h⟩:=h;have r:i.toNat<d.length:=by omega
 have D:d[i.toNat]?=some d[i.toNat]:=Ua r;have h:=h _ D;obtain⟨Y,X,x2,f1,F,f2,e1,G,J,P,C,Q⟩:=Zoc (λd vs f=>Zca e d vs f) _ _ _ s _ _ D;have W:(f++[]).Perm (F++((Yv v).toList++f1++f2)):=by
  rw[Um,N,G];have:((Yv v).toList++(f1++F++f2)).Perm ((Yv v).toList++f1++F++f2):=by simp[Un]
  refine this.trans ?_;rw[<-Un];exact(UU).append_right f2
 have L:=T.perm W;obtain⟨E2,H2,cells,j,U,k,b,p,h,m,l,hl⟩:=Jc e _ A C L h;have h:=h ((Yv v).toList++f1++f2);rw[Xu]at h;have Z:E1.ids[I]?=some v:=by rw[q.ids];exact u.1
 have a:E2.ids[I]?=some v:=b.ids _ _ Z;have c:I<H2.length:=by
  have:=(Ub.1 a).1;rw[<-k.len];exact this
 have M:∀g:Nat,E2.w.heap[g]?=E1.w.heap[g]?:=λg=>by rw[j]
 obtain⟨o,_⟩:=Loose.put (gs:=[]) (by rw[Um];exact m) k c a (.hole t e d i cells ((Yv v).toList++f1++f2)) (λ_ g n=>n)
  ⟨v,xs,Y,X,x2,f1,f2,a,by rw[j];exact V,x,y,e1,J,Zca e _ _ _ C,
   X4 _ _ _ (λd vs f _=>Yw b.S b.w e d vs f (λg _=>M g)) P,
   X4 _ _ _ (λd vs f _=>Yw b.S b.w e d vs f (λg _=>M g)) Q,p,rfl,m.nodup⟩
 exact⟨E2,_,t,e,d,cells,_,j.trans q.w,o,q.le.trans b,UF c,h⟩
theorem ZrG (m:Inv B E H) (a:den E (.own I) v) (h:Zt8 I i H K):Zzm B E H I i K:=by
 unfold Zt8 at h;obtain⟨C,l,h⟩:=Y0 H h;split at h
 ·exact ZrP m a h
 ·rename_i c e d j cells f
  rcases h with⟨rfl,h⟩|h
  ·exact⟨E,H,c,e,d,cells,f,rfl,m,Env.le.refl E,l,h⟩
  ·exact ZrP m a h
 ·exact h.elim
def ZwB:Entry->Bool
 | .darr _ _ _ _=>true
 | .hole _ _ _ _ _ _=>true
 |_=>false
def ZEU:Entry->Nat
 | .darr _ e _ _=>e.ty.size
 | .hole _ e _ _ _ _=>e.ty.size
 |_=>0
theorem ZwT {z:Nat} {o:Nat} (h:den E (.oep I z i o) v):∃u,den E (.own I) u:=by
 simp only[den]at h ⊢;obtain⟨b,B,n,c,d,_⟩:=h;exact⟨_,d,_,_,_,rfl⟩
def Zyz (t:TI) (s:SV) (H:List Entry) (K:SV->List Entry->Prop):Prop :=
 match s with
 | .oep I z i o=>ZgN H I λC=>if ZwB C=true then(if ZEU C=z then Zt8 I i H λcells H'=>if cells.length=z then ZiC cells o λcs=>VE t cs λr=>K r H' else False else False)else ZuM t s H λr=>K r H
 |_=>ZuM t s H λr=>K r H
variable {T:TypeId} {s:SV}
theorem ZtR (p:Inv B E H) {C:TI} (h:Zdi P T C) (q:den E s v) {K:SV->List Entry->Prop} (k:Zyz C s H K) :
  ∃u r E' H',E'.w=E.w/\ZxZ P E.w (Instr.loadAt T v) u/\Inv B E' H'/\E.le E'/\den E' r u/\K r H':=by
 have O:ZuM C s H (λr=>K r H)->∃u r E' H',E'.w=E.w/\ZxZ P E.w (Instr.loadAt T v) u/\Inv B E' H'/\E.le E'/\den E' r u/\K r H':=by
  intro k;obtain⟨u,r,l,g,m⟩:=ZtS p h q k;exact⟨u,r,E,H,rfl,l,p,Env.le.refl E,g,m⟩
 unfold Zyz at k;split at k
 ·rename_i M z i o
  obtain⟨W,Z,k⟩:=Y0 H k;split at k
  ·split at k
   ·obtain⟨w0,y⟩:=ZwT q
    obtain⟨E1,H1,X,e,d,cells,Y,f,A,F,I,k⟩:=ZrG p y k;split at k
    ·rename_i L
     rw[Zcp]at k;obtain⟨b,R,n,c,V,l,g,m,D⟩:=ZAh (A.ent M _ I);simp only[den]at q;obtain⟨S,a,n',U,G,rfl⟩:=q;have:=(F.ids _ _ G).symm.trans l;simp at this;obtain⟨⟨rfl,rfl⟩,rfl,rfl⟩:=this;have x:V.length=z:=by rw[<-YG _ _ g];exact L
     have t:e.ty.size=z:=by rw[<-m,x]
     obtain ⟨u,r,k1,N,Q⟩:=ZhU h E1.w ⟨S,a+(i.toNat*z+o),none⟩ k (V.drop o) (JL _ _ g o) (λj u J=>by
      have:=D (o+j) u (by simpa using J);rw[add_eq] at this ⊢;rw[t] at this;rw[show a+(i.toNat*z+o)+j=a+i.toNat*z+(o+j) by omega];exact this)
     refine⟨u,r,E1,H1,f,λw' hst=>?_,A,F,N,Q⟩;rw[f]at k1;simp only[Instr.loadAt,Instr.sureAddr,pure_bind];exact k1 w' hst
    ·exact k.elim
   ·exact k.elim
  ·exact O k
 ·exact O k
def Zou (t:TI) (I z:Nat) (i:Int) (o:Nat) (sx:SV) (H:List Entry) (K:List Entry->Prop):Prop :=
 if(sx.whole&&Zpa sx.cells&&Zo9 sx.cells t.size)=true then Zt8 I i H λcells H'=>if cells.length=z/\o+t.size<=z then Zkh cells o sx.cells λnew=>ZgN H' I λC=>match C with
  | .hole c e d j _ f=>ZhD H' I (.hole c e d j new f) K
  |_=>False
 else False else False
def Zun (t:TI) (s sx:SV) (H:List Entry) (K:List Entry->Prop):Prop :=
 match s with
 | .oep I z i o=>ZgN H I λC=>if ZwB C=true then Zou t I z i o sx H K else Zuo t s sx H K
 |_=>Zuo t s sx H K
variable {sx:SV} {K:List Entry->Prop}
theorem Zr8 (hI:Inv B E H) {W:TI} (h:Zdi P T W) {id z:Nat} {O:Nat} {va x:Value} (ha:den E (.oep id z i O) va) (hx:den E sx x) (k:Zou W id z i O sx H K):∃E' H',(Instr.storeAt T va x).run P E.w=.ok () E'.w/\Inv B E' H'/\E.le E'/\K H'/\E.w.grownBy E'.w (Yv va):=by
 unfold Zou at k;split at k
 ·rename_i hc
  simp only[Up,Zo9,Kb]at hc;obtain⟨⟨hw,h1⟩,D⟩:=hc;have R:=JJ hx hw;have hl:=YG _ _ R;have a5:=ZgI _ _ R h1;have d4:x.cells.size=W.size:=by rw[<-Ux,<-hl,D]
  have a:x.cells.toList.length=W.size:=by rw[<-hl,D]
  obtain⟨w0,d5⟩:=ZwT ha;obtain⟨E1,H1,et,e,d,cells,fp,a7,A,F,I,k⟩:=ZrG hI d5 k;split at k
  ·rename_i N
   obtain⟨N,d6⟩:=N;rw[ZhB]at k;obtain⟨en,b4,k⟩:=Y0 H1 k;have:=I.symm.trans b4;simp at this;subst this;simp only[Xu]at k;simp only[den]at ha;obtain⟨b,r,n,c,g1,rfl⟩:=ha;have G:=F.ids _ _ g1;obtain⟨v,xs,x1,V,x2,f1,f2,k1,ho,b6,b7,ex,X,b0,d2,d3,Z,ef,q⟩:=A.ent id _ I;have:=G.symm.trans k1;simp at this;subst this;have U:V.length=z:=by rw[<-YG _ _ Z];exact N
   have s:e.ty.size=z:=by rw[<-b0,U]
   rcases ho.2 with⟨hv,_⟩|⟨g,a9,cur,o,hv,b5,hh,C,d0,Q,m⟩
   ·simp at hv
   ·simp only[Value.slice.injEq,Option.some.injEq,Addr.mk.injEq,and_true]at hv
    obtain⟨⟨b1,b2⟩,d1,b3⟩:=hv;subst b1;subst b2;rw[s]at ho Q m X;have b9:i.toNat<d.length:=by omega
    have l:cur.toList.length=cur.size:=Ux;have Y:r+d.length*z<=cur.toList.length:=by rw[l];exact Kg (Nat.add_le_add_left (U2 _ C) _) Q
    have b8:i.toNat*z+z<=d.length*z:=by rw[<-U4];exact U2 _ b9
    have a6:=Zh3 h E1.w b (r+(i.toNat*z+O)) x cur et hh d4 (by rw[<-l];omega) a5;have p:=Zfa E1.w b (cur.toList.take (r+(i.toNat*z+O))++x.cells.toList++cur.toList.drop (r+(i.toNat*z+O)+W.size)).toArray;have y:b∈fp:=by rw[ef];simp[Yv]
    have j:=ZdY p A.Slt (λg u=>by simp at u;subst u;exact(A.free id _ _ _ I rfl G y).1);have M:∀f':List Nat,(∀g∈f',g∈f1\/g∈f2)->∀g∈f',(E1.w.setRow b (cur.toList.take (r+(i.toNat*z+O))++x.cells.toList++cur.toList.drop (r+(i.toNat*z+O)+W.size)).toArray).heap[g]?=E1.w.heap[g]?:=by
     intro f' L g a4;have a0:g∈fp:=by rw[ef];simp only[Uu];rcases L g a4 with h'|h'<;>simp[h']
     refine p.block g (A.free id _ _ _ I rfl G a0).2.2 (λu=>?_);simp at u;subst u;rw[ef]at q;simp only[Yv,Option.toList,U0,Uq,KU,Uu]at q;exact q.1 (L g a4)
    have hsp:=ZhX (t:=z) cur.toList x.cells.toList r (d.length*z) i.toNat O Y b8 (by rw[a];omega);rw[a,m]at hsp;have a1:xs.take (i.toNat*z)=x1:=by rw[ex,<-X,Un,List.take_left]
    have a2:(xs.drop (i.toNat*z)).take z=V:=by rw[ex,<-X,Un,KY,<-U,List.take_left]
    have a3:xs.drop (i.toNat*z+z)=x2:=by rw[ex,<-X,<-U,show x1.length+V.length=(x1++V).length by simp,KY]
    rw[a1,a2,a3]at hsp;have J:=Zgj (ZO j _ _ Z) (ZO j _ _ (ZO F _ _ R)) O;rw[a]at J;refine⟨⟨E1.S,E1.w.setRow b _,E1.ids⟩,_,?_,A.Zur I rfl G (row:=some b) (λg u=>by simp at u;subst u;exact y) p (.hole et e d i (cells.take O++(sx.cells++cells.drop (O+sx.cells.length))) fp) (λ_ g p=>p) ?_,F.trans j,k,by rw[<-a7];exact p⟩
    ·rw[<-a7];exact a6
    ·refine⟨_,x1++(V.take O++x.cells.toList++V.drop (O+W.size))++x2,x1,_,x2,f1,f2,G,⟨?_,.inr ⟨b,a9,_,r,?_,b5,setRow_heap E1.w b cur _ et (0,0) hh,by simpa using C,d0,?_,?_⟩⟩,b6,b7,rfl,by rw[X,s],?_,?_,?_,J,ef,q⟩
     ·have a8:=ho.1
      rw[ex]at a8;rw[s];simp only[Uh,Uo,US,a]at a8 ⊢;omega
     ·rw[d1,b3]
     ·rw[U6,s]
      simp only[Uh,Uo,US,a];rw[<-l]at Q;omega
     ·rw[KI,s];exact hsp
     ·rw[s]
      simp only[Uh,Uo,US,a];omega
     ·exact X4 _ _ _ (λd vs f hs=>Yw j.S j.w e d vs f (M f (λg p=>.inl (hs g p)))) d2
     ·exact X4 _ _ _ (λd vs f hs=>Yw j.S j.w e d vs f (M f (λg p=>.inr (hs g p)))) d3
  ·exact k.elim
 ·exact k.elim
theorem Zr7 (m:Inv B E H) {t:TI} (h:Zdi P T t) {x:Value} (a:den E s v) (Z:den E sx x) (k:Zun t s sx H K):∃E' H',(Instr.storeAt T v x).run P E.w=.ok () E'.w/\Inv B E' H'/\E.le E'/\K H'/\E.w.grownBy E'.w (Yv v):=by
 unfold Zun at k;split at k
 ·obtain⟨C,l,k⟩:=Y0 H k
  split at k
  ·exact Zr8 m h a Z k
  ·exact Zr9 m h a Z k
 ·exact Zr9 m h a Z k
end
section
variable {P:Program}
variable {B:Base} {E:Env} {H:List Entry} {gs:List Nat}
theorem Loose.write (l:Loose B E H gs) (m:Inv B E H) {w':World} {row:Option Nat} (n:∀g,row=some g->g∈gs) (o:E.w.grownBy w' row) :
  Inv B ⟨E.S,w',E.ids⟩ H/\E.le ⟨E.S,w',E.ids⟩/\Loose B ⟨E.S,w',E.ids⟩ H gs/\(E.w.heap.size<w'.heap.size->Loose B ⟨E.S,w',E.ids⟩ H (E.w.heap.size::gs)):=by
 have r:=ZdY o m.Slt (λg e=>(l.free g (n g e)).1);have s:Inv B ⟨E.S,w',E.ids⟩ H :=
  {keeps:=m.keeps.grown o (λg e=>(l.free g (n g e)).2.1)
   Slt:=λb d=>UD (m.Slt b d) o.size
   Sold:=m.Sold,len:=m.len,pin:=m.pin
   ent:=λi e p=>ZdW r i e (λq v g k d=>o.block g (m.free i e v g p q k d).2.2 (λP=>l.apart g (n g P.symm) i e v p q k d)) (m.ent i e p)
   free:=λi e v g p q k d=>by
    obtain⟨a,b,c⟩:=m.free i e v g p q k d;exact⟨a,b,UD c o.size⟩
   sep:=m.sep}
 have f:Loose B ⟨E.S,w',E.ids⟩ H gs:=⟨l.nodup,λg h=>by
  obtain ⟨a,b,c⟩:=l.free g h;exact ⟨a,b,UD c o.size⟩,l.apart⟩
 refine⟨s,r,f,λt=>⟨KU.2 ⟨λQ=>KX _ (l.free _ Q).2.2,l.nodup⟩,λg h=>?_,λg h j e v u q k d=>?_⟩⟩
 ·rcases Us.1 h with rfl|h
  ·exact⟨λx=>KX _ (m.Slt _ x),.inl m.keeps.size,t⟩
  ·exact f.free g h
 ·rcases Us.1 h with rfl|h
  ·exact KX _ (m.free j e v _ u q k d).2.2
  ·exact f.apart g h j e v u q k d
def Zj6 (c:TypeId) (e:Dp) (d:List e.ty.den) (H:List Entry) (K:SV->List Entry->Prop):Prop :=
 Zsg H 0 λn=>∀f:List Nat,ZpT H [.darr c e d f] λH'=>K (.own n) H'
variable {e:Dp} {v:Value} {K:SV->List Entry->Prop}
theorem ZlY (m:Inv B E H) {c:TypeId} {d:List e.ty.den} {f:List Nat} (r:ZgF E.S E.w (.ol c e) d [v] f) (n:Loose B E H (f++gs)) (h:Zj6 c e d H K) :
  ∃E' H' s,E'.w=E.w/\Inv B E' H'/\E.le E'/\den E' s v/\K s H':=by
 unfold Zj6 at h;rw[Zb7,Uw]at h;have h:=h f;rw[ZaQ]at h;obtain⟨v',xs,F,j,o,r,b⟩:=r;simp at j;subst j;have a:(E.ids++[v])[H.length]?=some v:=by rw[<-m.len];simp
 obtain⟨q,i⟩:=n.push m v (.darr c e d f) (λ_ g k=>k) ⟨v,xs,F,a,o,r,b,(UW.1 n.nodup).1⟩;exact⟨⟨E.S,E.w,E.ids++[v]⟩,_,_,rfl,q,ZjA E v,Zn4 a o,h⟩
def Zzu:List Entry->Nat->Option (TypeId×Dp)
 |[],_=>none
 |e::_,0=>match e with
  | .darr c e _ _=>some (c,e)
  | .hole c e _ _ _ _=>some (c,e)
  |_=>none
 |_::r,n+1=>Zzu r n
def Zv0 (s:SV) (H:List Entry):Option (TypeId×Dp) :=
 match s with
 | .own I=>Zzu H I
 |_=>none
def ZC4 (c:TypeId) (e:Dp) (t:TI) (s x:SV) (H:List Entry) (K:SV->List Entry->Prop):Prop :=
 if c=t.elem/\e.ty.size=t.esize/\0<t.esize/\0<t.ebytes then ZoC t.ezero λz=>if z.length=t.esize then
  closeAll (.ol c e) [s] H λd H1=>closeAll (.ol c e) [x] H1 λD H2=>(d.length+D.length)*t.ebytes<=140737488355328/\Zj6 c e (d++D) H2 K
 else False else False
def Zsm (t:TI) (s x:SV) (H:List Entry) (K:SV->List Entry->Prop):Prop :=
 match t.kind with
 | .sl=>match Zv0 s H with
  |some (c,e)=>ZC4 c e t s x H K
  |none=>match Zv0 x H with
   |some (c,e)=>ZC4 c e t s x H K
   |none=>Zsn t s x H K
 |_=>False
theorem Zob {S:Nat->Prop} {w:World}:∀(e:Dp) (d:e.ty.den) (vs:List Value) (f:List Nat),ZgF S w e d vs f->∀u∈vs,u.oneCell'=true
 | .flat t,d,vs,f,h,u,H=>Zqz t d vs h.2 u H
 | .ol m e,d,vs,f,⟨v,xs,s,j,l,_⟩,u,H=>by
  subst j;simp at H;subst H;rcases l.2 with⟨rfl,_⟩|⟨g,c,cur,o,rfl,_⟩<;>rfl
 | .mp _ _,d,vs,f,⟨b,E,C,j,_⟩,u,H=>by
  subst j;simp at H;subst H;rfl
 | .pair a b,d,vs,f,⟨v1,V,f1,f2,j,_,i,k⟩,u,H=>by
  subst j;rcases Uu.1 H with H|H
  ·exact Zob a _ _ _ i u H
  ·exact Zob b _ _ _ k u H
theorem Zpy {S:Nat->Prop} {w:World} {e:Dp}:∀(l:List e.ty.den) (xs:List Value) (f:List Nat),Zai (ZgF S w e) l xs f->∀u∈xs,u.oneCell'=true
 |[],xs,f,h,u,a=>by rw[h.1]at a;simp at a
 |d::l,xs,f,⟨v1,v,f1,f2,j,_,H,b⟩,u,a=>by
  subst j;rcases Uu.1 a with a|a
  ·exact Zob e _ _ _ H u a
  ·exact Zpy l v f2 b u a
theorem Zvz (hI:Inv B E H) {T ty:TypeId} {M:TI} (h:Zdi P T M) (d8:M.kind=.sl) {W:TypeId} {s x:SV} {vs vx:Value} (hs:den E s vs) (hx:den E x vx) (k:ZC4 W e M s x H K):∃u E' H' r,(Builtin.append_ #[T,T] ty #[vs,vx]).run P E.w=.ok u E'.w/\Inv B E' H'/\E.le E'/\den E' r u/\K r H'/\E.w.grownBy E'.w vs.ownBlock:=by
 unfold ZC4 at k;split at k
 ·rename_i d5
  obtain⟨t,L,f4,a0⟩:=d5;obtain⟨z,hz,k⟩:=Zf9 E _ _ k;split at k
  ·rename_i e7
   obtain⟨hu,_,ie,a3,b8,b5,A⟩:=h.slice d8;have b9:M.ezero.cells.size=M.esize:=by rw[<-Ux,<-YG _ _ hz,e7]
   obtain⟨E1,H1,d,f1,G,d1,e2,k,d3,_,_⟩:=Vl hI (show Yf E [s] [vs]from⟨hs,trivial⟩) (gs:=[]) ⟨KM,λg a=>by simp at a,λg a=>by simp at a⟩ k;obtain⟨E2,H2,V,f2,J,b0,e3,k,b1,_,_⟩:=Vl d1 (show Yf E1 [x] [vx]from⟨ZgL G.le _ _ hx,trivial⟩) d3 k;obtain⟨i,k⟩:=k;rw[Um]at b1;have e6:E2.w=E.w:=by rw[J.w,G.w]
   have b7:=Yw J.le.S J.le.w (.ol W e) d [vs] f1 (λg _=>by rw[J.w]) e2;obtain⟨v1,X,F,a7,n,Q,j⟩:=b7;simp at a7;subst a7;obtain⟨v2,a6,b,a8,I,R,C⟩:=e3;simp at a8;subst a8;rw[<-e6];have D:Loose B E2 H2 (f1++f2):=b1.perm UU;rcases I.2 with⟨a5,e1⟩|⟨g2,N,e8,o2,a5,f0,f5,d6,f3,e9,d0⟩
   ·have d7:V=[]:=UC e1
    subst d7;rw[Um]at k;subst a5;have hr:=ZeV (P:=P) (w:=E2.w) 0 T ty W ie e.ty.size (by rw[t];exact hu) (by rw[t];exact a3) vs d.length X n;obtain⟨E3,H3,r,y,Y,c,a1,k⟩:=ZlY b0 (⟨vs,X,F,rfl,n,Q,j⟩:ZgF E2.S E2.w (.ol W e) d [vs] f1) D k;refine⟨vs,E3,H3,r,?_,Y,(G.le.trans J.le).trans c,a1,k,by rw[y];exact⟨rfl,rfl,rfl,UE _,λ_ _ _=>rfl⟩⟩;rw[y];exact hr
   ·subst a5
    have m:=I.Zgh rfl;have a9:d.length+V.length<=maxLen:=by
     have:=Nat.le_mul_of_pos_right (d.length+V.length) a0;unfold maxLen;omega
    have o:=Zpy _ _ _ R;obtain⟨v',w',hr,p,a2,_⟩:=Zk0 (P:=P) E2.w 0 T ty W ie M.ezero e.ty.size M.ebytes (by rw[t];exact hu) (by rw[t];exact a3) A (by rw[b8,L]) b5 (by rw[b9,L]) (by omega) vs d.length X n
     ⟨g2,o2,none⟩ V.length N a6 I.1 m o a9 i (UM _)
    have b4:=ZjI (P:=P) E2.w 0 T ty W ie M.ezero e.ty.size M.ebytes (by rw[t];exact hu) (by rw[t];exact a3) A (by rw[b8,L]) b5 (by rw[b9,L]) (by omega) vs d.length X n
     ⟨g2,o2,none⟩ V.length N a6 I.1 m o a9 i hr
    have Z:=Zb8 n;obtain ⟨Y,c,b2,b3⟩:=D.write b0 (row:=vs.ownBlock) (λg a=>by
     rw[<-Z] at a;rw[j];simp[a]) a2
    have a4:=D.nodup;have U:∀g,g∈F++b->w'.heap[g]?=E2.w.heap[g]?:=by
     intro g a;have d9:g∈f1++f2:=by
      rw[j,C];simp only[Uu]at a ⊢;rcases a with a|a
      ·exact .inl (.inr a)
      ·exact .inr (.inr a)
     refine a2.block g (D.free g d9).2.2 (λeq=>?_);rw[<-Z]at eq;rw[j,C,<-eq]at a4;simp only[Option.toList,U0,Uq,KU,Uu]at a4;refine a4.1 ?_;rcases Uu.1 a with a|a
     ·exact .inl a
     ·exact .inr (.inr a)
    have e5:Zai (ZgF E2.S w' e) (d++V) (X++a6) (F++b) :=
     ZgZ _ _ _ _ _ _ (X4 _ _ _ (λd vs f hs=>Yw (λ_ h=>h) c.w e d vs f (λg a=>U g (by simp[hs g a]))) Q)
      (X4 _ _ _ (λd vs f hs=>Yw (λ_ h=>h) c.w e d vs f (λg a=>U g (by simp[hs g a]))) R)
    have e4:ZgF E2.S w' (.ol W e) (d++V) [v'] ((Yv v').toList++(F++b)):=⟨v',_,_,rfl,by rw[Uh];exact p,e5,rfl⟩;have e0:∀g,Yv v'=some g->g<w'.heap.size:=by
     intro g a;rw[Zb8 p]at a;exact(p.lt g a).2
    have sub:∀{l:List Nat},List.Sublist ((Yv v').toList++(F++b)) l->Loose B ⟨E2.S,w',E2.ids⟩ H2 l->Loose B ⟨E2.S,w',E2.ids⟩ H2 ((Yv v').toList++(F++b)++[]):=by
     intro l v hl;rw[Um];exact⟨hl.nodup.sublist v,λg a=>hl.free g (v.subset a),λg a=>hl.apart g (v.subset a)⟩
    have q:List.Sublist (F++b) (f1++f2):=by
     rw[j,C];exact List.Sublist.append (List.sublist_append_right _ _) (List.sublist_append_right _ _)
    have d4:Loose B ⟨E2.S,w',E2.ids⟩ H2 ((Yv v').toList++(F++b)++[]):=by
     rcases b4 with O|O|O
     ·subst O
      exact sub (by simpa[Yv]using q) b2
     ·rw[O,<-Z]
      have:=sub (l:=f1++f2) (by
       rw[O,<-Z,j,C,Un];exact List.Sublist.append (List.Sublist.refl _) (List.Sublist.append (List.Sublist.refl _) (List.sublist_append_right _ _))) b2
      rwa [O,<-Z]at this
     ·exact sub (by rw[O];exact List.Sublist.cons_cons _ q) (b3 (e0 _ O))
    obtain⟨E3,H3,r,y,d2,b6,a1,k⟩:=ZlY Y e4 d4 k;refine⟨v',E3,H3,r,?_,d2,((G.le.trans J.le).trans c).trans b6,a1,k,by rw[y];exact a2⟩;rw[y];exact hr
  ·exact k.elim
 ·exact k.elim
theorem Zuu (m:Inv B E H) {T ty:TypeId} {t:TI} (h:Zdi P T t) {s x:SV} {vs:Value} (q:den E s vs) (Z:den E x v) (k:Zsm t s x H K):∃u E' H' r,(Builtin.append_ #[T,T] ty #[vs,v]).run P E.w=.ok u E'.w/\Inv B E' H'/\E.le E'/\den E' r u/\K r H'/\E.w.grownBy E'.w vs.ownBlock:=by
 unfold Zsm at k;split at k
 ·rename_i e
  split at k
  ·exact Zvz m h e q Z k
  ·split at k
   ·exact Zvz m h e q Z k
   ·exact Zuv m h q Z k
 ·exact k.elim
end
section
variable {P:Program}
def ZxS:(e:Dp)->List SV->(e.ty.den->List SV->Prop)->Prop
 | .flat t,cs,K=>X0 t cs K
 | .ol _ _,cs,K=>match cs with
  | .nsl::r=>K [] r
  |_=>False
 | .mp _ _,_,_=>False
 | .pair a b,cs,K=>ZxS a cs λx r=>ZxS b r λy R=>K (x,y) R
theorem ZqU {E:Env}:∀(e:Dp) (cs:List SV) {K:e.ty.den->List SV->Prop} (vs:List Value),Yf E cs vs->ZxS e cs K->
  ∃d r v1 V,vs=v1++V/\ZgF E.S E.w e d v1 []/\Yf E r V/\K d r
 | .flat t,cs,K,vs,L,H=>by
  obtain⟨d,r,v1,V,a,b,c,k⟩:=XD t cs K vs L H;exact⟨d,r,v1,V,a,⟨rfl,b⟩,c,k⟩
 | .ol l e,cs,K,vs,L,H=>by
  simp only[ZxS]at H;split at H
  ·rename_i r
   match vs,L with
   |[],L=>simp[Yf]at L
   |v::vs,L =>
    simp only[Yf,den]at L;obtain⟨rfl,L⟩:=L;exact⟨[],r,[_],vs,rfl,⟨_,[],[],rfl,World.Zjd _ _ _ _,⟨rfl,rfl⟩,rfl⟩,L,H⟩
  ·exact H.elim
 | .mp _ _,cs,K,vs,L,H=>H.elim
 | .pair a b,cs,K,vs,L,H=>by
  obtain⟨x,r,v1,V,e1,h,g,H⟩:=ZqU a cs vs L H;obtain⟨y,R,v3,M,f,i,j,H⟩:=ZqU b r V g H;exact⟨(x,y),R,v1++v3,M,by rw[e1,f,Un],⟨v1,v3,[],[],rfl,rfl,h,i⟩,j,H⟩
theorem ZiX {α:Type} {R:α->List Value->List Nat->Prop} {x:α} {vs:List Value} (h:R x vs []):∀n,Zai R (List.replicate n x) (List.replicate n vs).flatten []
 |0=>by simp[Zai]
 |n+1=>by
  simp only[Ks,List.flatten_cons];exact⟨vs,_,[],[],rfl,rfl,h,ZiX h n⟩
theorem Zl5 {α:Type} {R:α->List Value->List Nat->Prop} {n:Nat} (W:∀d vs f,R d vs f->vs.length=n):∀l xs p,Zai R l xs p->∀i,∃f1 f2,p=f1++f2/\Zai R (l.take i) (xs.take (i*n)) f1
 |[],xs,p,h,i=>⟨[],[],by rw[h.2];rfl,by rw[h.1];simp[Zai]⟩
 |d::l,xs,p,h,0=>⟨[],p,rfl,by simp[Zai]⟩
 |d::l,_,_,⟨v1,v,f1,f2,e,E,r,s⟩,i+1=>by
  obtain⟨g,G,H,a⟩:=Zl5 W l v f2 s i;have q:=W _ _ _ r;subst e;refine⟨f1++g,G,by rw[E,H,Un],?_⟩;rw[List.take_succ_cons,show(i+1)*n=v1.length+i*n by rw[q,U4];omega,List.take_append];exact⟨v1,_,f1,g,by simp[KO],rfl,r,a⟩
theorem Zpx {α:Type} {R:α->List Value->List Nat->Prop} {n:Nat} (W:∀d vs f,R d vs f->vs.length=n):∀l xs p,Zai R l xs p->∀i,∃f1 f2,p=f1++f2/\Zai R (l.drop i) (xs.drop (i*n)) f2
 |[],xs,p,h,i=>⟨[],[],by rw[h.2];rfl,by rw[h.1];simp[Zai]⟩
 |d::l,xs,p,h,0=>⟨[],p,rfl,by simpa using h⟩
 |d::l,_,_,⟨v1,v,f1,f2,e,E,r,s⟩,i+1=>by
  obtain⟨g,G,H,a⟩:=Zpx W l v f2 s i;have q:=W _ _ _ r;subst e;refine⟨f1++g,G,by rw[E,H,Un],?_⟩;rw[List.drop_succ_cons,show(i+1)*n=v1.length+i*n by rw[q,U4];omega,<-List.drop_drop,KY];exact a
variable {B:Base} {E:Env} {H:List Entry} {e:Dp} {K:SV->List Entry->Prop}
theorem Znl (v:Inv B E H) {t:TypeId} {d:List e.ty.den} (k:Zj6 t e d H K) (cs:Array Value) (c:Nat) {f gs:List Nat} (o:Loose B E H (f++gs))
  (p:d.length<=c) (Q:c<=maxLen) (q:cs.size=c*e.ty.size) (x:Zai (ZgF E.S E.w e) d (cs.toList.take (d.length*e.ty.size)) f) :
  ∃E' H' s,E'.w=E.w.alloc (.cells cs t)/\Inv B E' H'/\E.le E'/\den E' s (.slice (some ⟨E.w.heap.size,0,none⟩) d.length c)/\K s H':=by
 have r:E.w.grownBy (E.w.alloc (.cells cs t)) none:=World.grownBy_alloc E.w _ none;obtain⟨A,F,_,L⟩:=o.write v (row:=none) (λg h=>by cases h) r;have L:=L (by simp);have U:∀g∈f,(E.w.alloc (.cells cs t)).heap[g]?=E.w.heap[g]?:=λg m=>r.block g (o.free g (by simp[m])).2.2 (by simp);have j:ZgF E.S (E.w.alloc (.cells cs t)) (.ol t e) d [.slice (some ⟨E.w.heap.size,0,none⟩) d.length c] (E.w.heap.size::f):=by
  refine⟨_,cs.toList.take (d.length*e.ty.size),f,rfl,⟨?_,.inr ⟨_,c,cs,0,rfl,UM _,Go.heap_alloc_new _ _,p,Q,by rw[Uw];exact Nat.le_of_eq q.symm,by rw[KL]⟩⟩,?_,rfl⟩
  ·have l:cs.toList.length=cs.size:=Ux
   rw[Uo,l,q];have:=U2 e.ty.size p;omega
  ·exact X4 _ _ _ (λd vs u q=>Yw F.S F.w e d vs u (λg m=>U g (q g m))) x
 obtain⟨E2,H2,s,n,a,b,i,k⟩:=ZlY A j (gs:=gs) L k;exact⟨E2,H2,s,n,a,F.trans b,i,k⟩
def ZAt (t:TI) (sl s:SV) (H:List Entry) (K:SV->List Entry->Prop):Prop :=
 match t.edp with
 |none=>ZAu t sl s H K
 |some e=>match t.kind,sl,s with
  | .sl,.int _ l,.int _ c=>ZoC t.ezero λz=>if z.length=t.esize/\e.ty.size=t.esize then
    0<=l/\l<=c/\c<=4611686018427387904/\(t.ebytes:Int)*c<=281474976710656/\ZxS e z λx _=>Zj6 t.elem e (List.replicate l.toNat x) H K
   else False
  |_,_,_=>False
theorem Loose.none (B:Base) (E:Env) (H:List Entry):Loose B E H []:=⟨KM,λg a=>by simp at a,λg a=>by simp at a⟩
variable {T:TypeId} {t:TI}
theorem ZyE (I:Inv B E H) (h:Zdi P T t) {sl M:SV} {O V:Value} (C:den E sl O) (q:den E M V) (k:ZAt t sl M H K) :
  ∃u E' H' s,(Instr.makeSlice T O V).run P E.w=.ok u E'.w/\Inv B E' H'/\E.le E'/\den E' s u/\K s H'/\Grow E.w E'.w:=by
 unfold ZAt at k;split at k
 ·exact ZyF I h C q k
 ·rename_i e _
  split at k
  ·rename_i kl l kc c n
   obtain⟨z,S,k⟩:=Zf9 E _ _ k;split at k
   ·rename_i a
    obtain⟨Z,p⟩:=a;obtain⟨Q,D,J,y,k⟩:=k;obtain⟨hu,_,ie,A,Y,W,o⟩:=h.slice n;simp only[den]at C q;subst C;subst q;have G:=YG _ _ S;have N:t.ezero.cells.size=t.esize:=by rw[<-Ux,<-G,Z]
    obtain⟨x,r,v1,v2,e1,L,_,k⟩:=ZqU _ _ _ S k;have F:v1=t.ezero.cells.toList:=by
     have R:=Zca _ _ _ _ L;have U:=Ka List.length e1;rw[Uh,Ux,N,R,p]at U;have:v2=[]:=UC (by omega);rw[e1,this,Um]
    have m:(madeCells t.ezero.cells (c.toNat*t.esize)).toList=(List.replicate c.toNat t.ezero.cells.toList).flatten:=by
     rw[<-N];exact ZgV _ _
    obtain ⟨E2,H2,s,g,i,b,j,k⟩:=Znl I k (madeCells t.ezero.cells (c.toNat*t.esize)) c.toNat (f:=[]) (gs:=[]) (Loose.none B E H) (by rw[UT];omega) (by unfold maxLen;omega) (by rw[size_madeCells,p]) (by
     obtain⟨f1,f2,X,this⟩:=Zl5 (λd vs f=>Zca e d vs f) _ _ _ (ZiX L c.toNat) l.toNat;have v:f1=[]:=by cases f1 with
      |nil=>rfl
      |cons=>simp at X
     subst v;rw[List.take_replicate]at this;rw[UT,m,<-F]
     rwa [show min l.toNat c.toNat=l.toNat by omega] at this)
    refine⟨_,E2,H2,s,?_,i,b,j,k,by rw[g];exact Zcr _ _⟩;rw[g,UT,<-Y];exact run_make E.w T t.elem ie t.ezero hu A o kl kc l c Q D (by rw[W];exact y) (by omega)
   ·exact k.elim
  ·exact k.elim
def Zho (e:Dp):Nat->List SV->List Entry->(List e.ty.den->List Entry->Prop)->Prop
 |0,cs,H,K=>match cs with
  |[]=>K [] H
  |_=>False
 |n+1,cs,H,K=>Jd e cs H λx r H1=>Zho e n r H1 λl H2=>K (x::l) H2
theorem Zkt {B:Base} {e:Dp}:∀(n:Nat) (cs:List SV) {E:Env} {H:List Entry} (_:Inv B E H) {vs:List Value} (_:Yf E cs vs) {gs:List Nat} (_:Loose B E H gs) {K:List e.ty.den->List Entry->Prop} (_:Zho e n cs H K),
  ∃E' H' l f,Frz E H E' H'/\Inv B E' H'/\l.length=n/\Zai (ZgF E'.S E'.w e) l vs f/\K l H'/\Loose B E' H' (f++gs)
 |0,cs,E,H,m,vs,L,gs,b,K,h=>by
  simp only[Zho]at h;split at h
  ·match vs,L with
   |[],_=>exact⟨E,H,[],[],Frz.refl E H,m,rfl,⟨rfl,rfl⟩,h,b⟩
   |_::_,L=>simp[Yf]at L
  ·exact h.elim
 |n+1,cs,E,H,m,vs,L,gs,b,K,h=>by
  simp only[Zho]at h;obtain⟨E1,H1,x,r,v1,v,f1,i,A,e1,j,d,h,c,_,_⟩:=Zco e cs m L b h;obtain⟨E2,H2,l,f2,J,a,R,k,h,M⟩:=Zkt n r A d c h;refine⟨E2,H2,x::l,f1++f2,i.trans J,a,by simp[R],⟨v1,v,f1,f2,e1,rfl,?_,k⟩,h,?_⟩
  ·exact Yw J.le.S J.le.w e _ _ _ (λg _=>by rw[J.w]) j
  ·refine M.perm ?_
   rw[<-Un];exact UU.append_right gs
def ZjP (t:TI) (len:Nat) (p:List (Nat×SV)) (H:List Entry) (K:SV->List Entry->Prop):Prop :=
 match t.edp with
 |none=>ZjQ t len p H K
 |some e=>match t.kind with
  | .sl=>if len=0/\p.isEmpty=true then Zj6 t.elem e [] H K else ZoC t.ezero λz=>if z.length=t.esize/\e.ty.size=t.esize/\0<len*t.esize/\len*t.esize<=16777216 then
    ZCo z len λZ=>Zsw (λi k=>k (i*t.esize) t.esize) Z p λcs=>Zho e len cs H λd H'=>Zj6 t.elem e d H' K
   else False
  |_=>False
theorem ZoG (R:Inv B E H) (h:Zdi P T t) {len:Nat} {O:List (Nat×SV)} {Q:Array (Nat×Value)} (M:Zjz E O Q.toList) (a:ZjP t len O H K) :
  ∃u E' H' s,(Instr.buildSlice T len Q).run P E.w=.ok u E'.w/\Inv B E' H'/\E.le E'/\den E' s u/\K s H'/\Grow E.w E'.w:=by
 unfold ZjP at a;split at a
 ·exact ZoH R h M a
 ·rename_i e _
  split at a
  ·rename_i F
   split at a
   ·rename_i D
    obtain⟨rfl,y⟩:=D;have y:O=[]:=by simpa using y
    subst y;have hq:Q.toList=[]:=by cases Y:Q.toList with
     |nil=>rfl
     |cons q r=>rw[Y]at M;simp[Zjz]at M
    obtain⟨Z,_,ie,m,N,_,o⟩:=h.slice F;obtain⟨E2,H2,s,g,j,b,l,a⟩:=Znl R a #[] 0 (f:=[]) (gs:=[]) (Loose.none B E H) (by simp) (by unfold maxLen;omega) (by simp) (by simp[Zai]);refine⟨_,E2,H2,s,?_,j,b,l,a,by rw[g];exact Zcr _ _⟩;rw[g];simp[Instr.buildSlice,run_underlying Z,sizeOf,typeInfo,m,hq,Instr.fill,newRow];congr 2;apply Array.ext';simp
   obtain⟨z,hz,a⟩:=Zf9 E _ _ a;split at a
   ·rename_i hc
    obtain⟨a0,J,I,a3⟩:=hc;obtain⟨Z,_,ie,m,N,_,o⟩:=h.slice F;rw[ZsY]at a;have a1:=YG _ _ hz;have a2:t.ezero.cells.size=t.esize:=by rw[<-Ux,<-a1,a0]
    have p:(madeCells t.ezero.cells (len*t.esize)).toList=(List.replicate len t.ezero.cells.toList).flatten:=by
     rw[<-a2];exact ZgV _ _
    obtain⟨z',C,h1,h2,h3⟩:=ZkF (E:=E) (λi k=>k (i*t.esize) t.esize) (λi=>some (i*t.esize,t.esize)) (λi K hh=>⟨_,_,rfl,hh⟩) O Q.toList M _ (madeCells t.ezero.cells (len*t.esize)) (by rw[p];exact Zp1 hz len) a;obtain⟨E1,H1,d,f,x,S,G,W,a,U⟩:=Zkt len _ R h2 (Loose.none B E H) h3;have A:∀(Q:List (Nat×Value)) (c L:Array Value),Instr.fill (λi=>some (i*t.esize,t.esize)) c Q=some L->L.size=c.size:=by
     intro Q;induction Q with
     |nil=>intro c L hh;simp[Instr.fill]at hh;rw[hh]
     |cons q Q ih =>
      intro c L hh;obtain⟨i,v⟩:=q;simp only[Instr.fill]at hh;split at hh
      ·cases hh
      ·have:=ih _ _ hh
       rw[this,<-Array.foldl_toList,Array.toList_zipIdx];exact(Great.foldl_set (i*t.esize) v.cells.toList 0 c).1
    have V:C.size=len*t.esize:=by rw[A _ _ _ h1,size_madeCells]
    have n:1<=t.esize:=by
     rcases KP t.esize with D|D
     ·rw[D]at I;omega
     ·exact D
    have X:len<=maxLen:=by
     have:=Nat.mul_le_mul_left len n;unfold maxLen;omega
    obtain ⟨E2,H2,s,g,j,b,l,a⟩:=Znl S a C len U (by omega) X (by rw[V,J]) (by
     rw[G,J,<-V,<-Ux,Ur];exact W)
    refine⟨_,E2,H2,s,?_,j,x.le.trans b,l,a,by rw[g,x.w];exact Zcr _ _⟩;rw[g,x.w,G];exact run_buildSlice E.w T t.elem len Q C ie t.ezero Z m o (by rw[N];omega) (by rw[N];omega) (by rw[N];exact h1)
   ·exact a.elim
  ·exact a.elim
def ZBV:List Entry->Nat->Option (TypeId×Dp)
 |[],_=>none
 |e::_,0=>match e with
  | .arr c t _=>some (c,.flat t)
  |_=>none
 |_::r,n+1=>ZBV r n
def ZDD (s:SV) (H:List Entry):Option (TypeId×Dp) :=
 match s with
 | .own I=>ZBV H I
 |_=>none
def ZDi (c:TypeId) (e:Dp) (t:TI) (r:List SV) (x:SV) (o i:Option Operand) (H:List Entry) (K:SV->List Entry->Prop):Prop :=
 if e.ty.size=t.esize then closeAll (.ol c e) [x] H λd H1=>ZgJ r o 0 λl=>ZgJ r i d.length λh=>0<=l/\l<=h/\h<=(d.length:Int)/\Vj (.ol c e) ((d.drop l.toNat).take (h.toNat-l.toNat)) H1 λcs H2=>match cs with
  |[s]=>K s H2
  |_=>False
 else False
def Zxn (t:TI) (r:List SV) (x:SV) (o l:Option Operand) (H:List Entry) (K:SV->List Entry->Prop):Prop :=
 match t.kind with
 | .sl=>match Zv0 x H with
   |some (c,e)=>ZDi c e t r x o l H K
   | none=>if t.cut=true then (match ZDD x H with
     |some (c,e)=>ZDi c e t r x o l H K
     | none=>ZrY t r x o l H K) else ZrY t r x o l H K
 |_=>ZrY t r x o l H K
variable {v:Value}
theorem ZuY {w:World} {e:TypeId} {z n:Nat} {xs:List Value} (h:w.Jr 0 e z v n xs) {l k:Nat} (x:l<=k:=by omega) (p:k<=n:=by omega) :
  ∃a c,v=.slice a n c/\n<=c/\w.Jr 0 e z (.slice (if c-l=0 then a else a.map (·.add (l*z))) (k-l) (c-l)) (k-l) ((xs.drop (l*z)).take ((k-l)*z))/\(Yv (.slice (if c-l=0 then a else a.map (·.add (l*z))) (k-l) (c-l))).toList=(Yv v).toList:=by
 have Z:=h.1;have j:l*z+(k-l)*z<=n*z:=by rw[<-Nat.add_mul];exact U2 _ (by omega)
 rcases h.2 with⟨rfl,rfl⟩|⟨g,c,cur,o,rfl,d,hh,G,m,V,r⟩
 ·have f:k=0:=by omega
  have i:l=0:=by omega
  subst f;subst i;exact⟨none,0,rfl,UE _,⟨by simp,.inl ⟨by simp,rfl⟩⟩,by simp[Yv]⟩
 ·have H:((xs.drop (l*z)).take ((k-l)*z)).length=(k-l)*z:=by
   rw[Uo,US,Z];omega
  refine⟨_,c,rfl,G,?_⟩;by_cases S:c-l=0
  ·rw[Uc S]
   have b:k-l=0:=by omega
   refine⟨⟨H,.inr ⟨g,c-l,cur,o,rfl,d,hh,by omega,by omega,?_,?_⟩⟩,rfl⟩
   ·rw[S,Nat.zero_mul];omega
   ·rw[b,Nat.zero_mul,Ki,Ki]
  ·rw[Ue S]
   have t:l*z+(c-l)*z=c*z:=by rw[<-Nat.add_mul];congr 1;omega
   refine⟨⟨H,.inr ⟨g,c-l,cur,o+l*z,by simp only[Kl,add_eq],d,hh,by omega,by omega,by omega,?_⟩⟩,?_⟩
   ·rw[<-r,List.drop_take,List.take_take,List.drop_drop,Nat.min_eq_left (by omega)]
   ·simp only[Kl,add_eq];rfl
variable {r:List SV} {a:Act} {x:SV}
theorem ZvW (hI:Inv B E H) (hd:Yf E r a.tmps.toList) {ti:TI} (h:Zdi P T ti) (O:ti.kind=.sl) {F:TypeId} (hx:den E x v)
  {A z:Option Operand} (b:ZDi F e ti r x A z H K) :
  ∃u E' H' s,(Instr.sliceAt T v (A.map a.eval) (z.map a.eval) none).run P E.w=.ok u E'.w/\Inv B E' H'/\E.le E'/\den E' s u/\K s H'/\Grow E.w E'.w:=by
 unfold ZDi at b;split at b
 ·rename_i Q
  obtain⟨E1,H1,d,f,p,G,Y,b,J,_,_⟩:=Vl hI (show Yf E [x] [v]from⟨hx,trivial⟩) (Loose.none B E H) b;obtain⟨L,b,m⟩:=Zbc (ZO p.le _ _ hd) b;obtain⟨i,b,hh⟩:=Zbc (ZO p.le _ _ hd) b;obtain⟨h0,h1,h2,b⟩:=b;obtain⟨v',xs,a5,ev,ho,Y,ef⟩:=Y;simp at ev;subst ev;obtain⟨hu,_,ie,V,a3,_⟩:=h.slice O;obtain⟨a0,c,hv,a4,X,N⟩:=ZuY ho (l:=L.toNat) (k:=i.toNat);obtain⟨f0,f3,C,a1⟩:=Zpx (λd vs f=>Zca e d vs f) _ _ _ Y L.toNat;obtain⟨f1,f2,D,Z⟩:=Zl5 (λd vs f=>Zca e d vs f) _ _ _ a1 (i.toNat-L.toNat);have t:((d.drop L.toNat).take (i.toNat-L.toNat)).length=i.toNat-L.toNat:=by rw[Uo,US];omega
  have j:List.Sublist ((Yv v).toList++f1) (f++[]):=by
   rw[Um,ef,C,D];exact List.Sublist.append (List.Sublist.refl _) ((List.sublist_append_left _ _).trans (List.sublist_append_right _ _))
  have M:Loose B E1 H1 ((Yv v).toList++f1++[]):=by
   rw[Um];exact⟨J.nodup.sublist j,λg R=>J.free g (j.subset R),λg R=>J.apart g (j.subset R)⟩
  have a2:ZgF E1.S E1.w (.ol F e) ((d.drop L.toNat).take (i.toNat-L.toNat)) [.slice (if c-L.toNat=0 then a0 else a0.map (·.add (L.toNat*e.ty.size))) (i.toNat-L.toNat) (c-L.toNat)] ((Yv v).toList++f1) :=
   ⟨_,_,f1,rfl,by rw[t];exact X,Z,by rw[N]⟩
  obtain⟨E2,H2,cs,y,a6,I,q,o,b,_,_⟩:=Jc (.ol F e) _ G a2 M b;split at b
  ·rename_i s
   simp only[Yf]at o;refine⟨_,E2,H2,s,?_,I,p.le.trans q,o.1,b,by rw[y,p.w];exact Grow.refl _⟩;rw[y,p.w,hv,Q,<-a3];simp only[Instr.sliceAt,Instr.slice,Sem.run_bind,run_underlying hu,Result.andThen_ok];have W:A.map a.eval=none/\L=0\/∃k,A.map a.eval=some (.int k L):=by
    rcases m with⟨rfl,e⟩|m
    ·exact .inl ⟨rfl,e⟩
    ·exact .inr m
   have U:z.map a.eval=none/\i=(d.length:Int)\/∃k,z.map a.eval=some (.int k i):=by
    rcases hh with⟨rfl,e⟩|hh
    ·exact .inl ⟨rfl,e⟩
    ·exact .inr hh
   rw[Zee E.w true d.length c _ _ L i h0 h1 (by omega) W U];simp only[Result.andThen_ok,run_sizeOf V];by_cases hz:c-L.toNat=0
   ·have n:c=L.toNat:=by omega
    simp[n]
   ·have n:¬c=L.toNat:=by omega
    simp[hz,n]
  ·exact b.elim
 ·exact b.elim
theorem Zxo (m:Inv B E H) (L:Yf E r a.tmps.toList) (h:Zdi P T t) (Z:den E x v)
  {o l:Option Operand} (k:Zxn t r x o l H K) :
  ∃u E' H' s,(Instr.sliceAt T v (o.map a.eval) (l.map a.eval) none).run P E.w=.ok u E'.w/\Inv B E' H'/\E.le E'/\den E' s u/\K s H'/\Grow E.w E'.w:=by
 unfold Zxn at k;split at k
 ·rename_i e
  split at k
  ·exact ZvW m L h e Z k
  ·split at k
   ·split at k
    ·exact ZvW m L h e Z k
    ·exact Zoi m L h Z k
   ·exact Zoi m L h Z k
 ·exact Zoi m L h Z k
end
section
variable {P:Program}
theorem Zro (w:World):w.grownBy w none:=⟨rfl,rfl,rfl,UE _,λ_ _ _=>rfl⟩
variable {B:Base} {E:Env} {H:List Entry} {I:Nat} {e:Dp} {d:List e.ty.den}
theorem Zvd (m:Inv B E H) {t:TypeId} {n:Int} {f:List Nat} (l:H[I]?=some (.spl t e d n f)) {x:e.ty.den} (h:n<(d.length:Int)) (k:d[n.toNat]?=some x) :
  Inv B E (H.set I (.hsp t e d n (ZfK e.ty x) f)):=by
 obtain⟨v,j,⟨xs,X,C,f1,y,r,A,ex,q,b,c,p⟩,a⟩:=m.ent I _ l;have u:=(Ub.1 k).1;have L:d.drop n.toNat=x::d.drop (n.toNat+1):=by
  rw[List.drop_eq_getElem_cons u];congr 1;exact(Ub.1 k).2
 rw[L]at c;obtain⟨V,z,o,Z,i⟩:=c;exact m.Zur l rfl j (row:=none) (λg e=>by cases e) (Zro E.w) (.hsp t e d n (ZfK e.ty x) f) (λ_ g s=>s)
  ⟨v,xs,X,V,z,f1,j,y,r,h,by rw[ex,o,Un],q,X3 e.ty _ _ Z,b,i,XB e.ty x V Z,p,a⟩
def ZAr (t:TI) (s:SV) (H:List Entry) (K:SV->List Entry->Prop):Prop :=
 match s with
 | .oep I z i o=>ZgN H I λC=>match C with
  | .spl _ e d n _=>if e.ty.size=z then n<=i/\Zjj d i λx=>Vv e.ty x λcells=>ZiC cells o λcs=>VE t cs λr=>K r H else False
  |_=>Zyz t s H K
 |_=>Zyz t s H K
variable {T:TypeId} {s:SV} {v:Value}
theorem ZyA (f:Inv B E H) {A:TI} (h:Zdi P T A) (q:den E s v) {K:SV->List Entry->Prop} (k:ZAr A s H K) :
  ∃u r E' H',E'.w=E.w/\ZxZ P E.w (Instr.loadAt T v) u/\Inv B E' H'/\E.le E'/\den E' r u/\K r H':=by
 unfold ZAr at k;split at k
 ·rename_i V z i o
  obtain⟨en,J,k⟩:=Y0 H k;split at k
  ·rename_i et e d n fp
   split at k
   ·rename_i Y
    obtain⟨O,L,M,k⟩:=k;have l:i.toNat<d.length:=by omega
    have Z:d[i.toNat]?=some d[i.toNat]:=Ua l;have k:=k _ Z;simp only[Qg,Zcp]at k;obtain⟨v',y,⟨xs,x1,x2,f1,Q,h0,h1,ex,C,S,p,ef⟩,N⟩:=f.ent V _ J;simp only[den]at q;obtain⟨b,g,m,c,D,rfl⟩:=q;have:=D.symm.trans y;simp at this;subst this;have G:(d.drop n.toNat)[i.toNat-n.toNat]?=some d[i.toNat]:=by
     rw[Km,show n.toNat+(i.toNat-n.toNat)=i.toNat by omega];exact Z
    obtain ⟨vs,x,t⟩:=Zhx (λd vs=>X3 e.ty d vs) _ _ p _ _ G;have a:=Q.Zgh rfl;obtain ⟨u,r,k1,W,X⟩:=ZhU h E.w ⟨b,g+(i.toNat*z+o),none⟩ k (vs.drop o) (JL _ _ (XB e.ty _ vs x) o) (λj u U=>by
     have F:=t (o+j) u (by simpa using U);have R:i.toNat*e.ty.size=n.toNat*e.ty.size+(i.toNat-n.toNat)*e.ty.size:=by rw[<-Nat.add_mul,show n.toNat+(i.toNat-n.toNat)=i.toNat by omega]
     have I:xs[i.toNat*e.ty.size+(o+j)]?=some u:=by
      rw[ex,UY (by omega),C,show i.toNat*e.ty.size+(o+j)-n.toNat*e.ty.size=(i.toNat-n.toNat)*e.ty.size+(o+j) by omega];exact F
     have:=a _ u I;rw[add_eq] at this ⊢;rw[Y] at this;rw[show g+(i.toNat*z+o)+j=g+(i.toNat*z+(o+j)) by omega];exact this)
    refine⟨u,r,E,H,rfl,λw' hst=>?_,f,Env.le.refl E,W,X⟩;simp only[Instr.loadAt,Instr.sureAddr,pure_bind];exact k1 w' hst
   ·exact k.elim
  ·exact ZtR f h q k
 ·exact ZtR f h q k
def Zne (t:TI) (I z:Nat) (o:Nat) (sx:SV) (H:List Entry) (K:List Entry->Prop):Prop :=
 if(sx.whole&&Zpa sx.cells&&Zo9 sx.cells t.size)=true then ZgN H I λC=>match C with
  | .hsp c e d j cells f=>if cells.length=z/\o+t.size<=z then Zkh cells o sx.cells λnew=>ZhD H I (.hsp c e d j new f) K else False
  |_=>False
 else False
def Zxx (t:TI) (s sx:SV) (H:List Entry) (K:List Entry->Prop):Prop :=
 match s with
 | .oep I z i o=>ZgN H I λC=>match C with
  | .spl c e d n f=>i=n/\Zjj d n λx=>Vv e.ty x λcells=>ZhD H I (.hsp c e d n cells f) λH'=>Zne t I z o sx H' K
  | .hsp _ _ _ j _ _=>i=j/\Zne t I z o sx H K
  |_=>Zun t s sx H K
 |_=>Zun t s sx H K
variable {sx:SV} {K:List Entry->Prop}
theorem Zov (X:Inv B E H) {Q:TI} (h:Zdi P T Q) {R z:Nat} {i:Int} {O:Nat} {va x:Value} (ha:den E (.oep R z i O) va) (hx:den E sx x)
  {et:TypeId} {cells:List SV} {fp:List Nat} (I:H[R]?=some (.hsp et e d i cells fp)) (k:Zne Q R z O sx H K):∃E' H',(Instr.storeAt T va x).run P E.w=.ok () E'.w/\Inv B E' H'/\E.le E'/\K H'/\E.w.grownBy E'.w (Yv va):=by
 unfold Zne at k;split at k
 ·rename_i hc
  simp only[Up,Zo9,Kb]at hc;obtain⟨⟨hw,h1⟩,A⟩:=hc;have F:=JJ hx hw;have hl:=YG _ _ F;have a5:=ZgI _ _ F h1;have d3:x.cells.size=Q.size:=by rw[<-Ux,<-hl,A]
  have a:x.cells.toList.length=Q.size:=by rw[<-hl,A]
  obtain⟨en,b3,k⟩:=Y0 H k;have:=I.symm.trans b3;simp at this;subst this;simp only at k;split at k
  ·rename_i L
   obtain⟨L,d4⟩:=L;rw[ZhB]at k;simp only[Xu]at k;simp only[den]at ha;obtain⟨b,q,n,c,W,rfl⟩:=ha;obtain⟨v,xs,x1,V,x2,f1,k1,ho,b5,b6,ex,U,a9,d1,d2,Z,ef,p⟩:=X.ent R _ I;have:=W.symm.trans k1;simp at this;subst this;have N:V.length=z:=by rw[<-YG _ _ Z];exact L
   have s:e.ty.size=z:=by rw[<-a9,N]
   rcases ho.2 with⟨hv,_⟩|⟨g,a8,cur,o,hv,b4,hh,G,b9,D,m⟩
   ·simp at hv
   ·simp only[Value.slice.injEq,Option.some.injEq,Addr.mk.injEq,and_true]at hv
    obtain⟨⟨b0,b1⟩,d0,b2⟩:=hv;subst b0;subst b1;rw[s]at ho D m U;have b8:i.toNat<d.length:=by omega
    have l:cur.toList.length=cur.size:=Ux;have Y:q+d.length*z<=cur.toList.length:=by rw[l];exact Kg (Nat.add_le_add_left (U2 _ G) _) D
    have b7:i.toNat*z+z<=d.length*z:=by rw[<-U4];exact U2 _ b8
    have a6:=Zh3 h E.w b (q+(i.toNat*z+O)) x cur et hh d3 (by rw[<-l];omega) a5;have u:=Zfa E.w b (cur.toList.take (q+(i.toNat*z+O))++x.cells.toList++cur.toList.drop (q+(i.toNat*z+O)+Q.size)).toArray;have y:b∈fp:=by rw[ef];simp[Yv]
    have j:=ZdY u X.Slt (λg r=>by simp at r;subst r;exact(X.free R _ _ _ I rfl W y).1);have M:∀f':List Nat,(∀g∈f',g∈f1)->∀g∈f',(E.w.setRow b (cur.toList.take (q+(i.toNat*z+O))++x.cells.toList++cur.toList.drop (q+(i.toNat*z+O)+Q.size)).toArray).heap[g]?=E.w.heap[g]?:=by
     intro f' C g a4;have a0:g∈fp:=by rw[ef];simp[C g a4]
     refine u.block g (X.free R _ _ _ I rfl W a0).2.2 (λr=>?_);simp at r;subst r;rw[ef]at p;simp only[Yv,Option.toList,U0,Uq,KU]at p;exact p.1 (C g a4)
    have hsp:=ZhX (t:=z) cur.toList x.cells.toList q (d.length*z) i.toNat O Y b7 (by rw[a];omega);rw[a,m]at hsp;have a1:xs.take (i.toNat*z)=x1:=by rw[ex,<-U,Un,List.take_left]
    have a2:(xs.drop (i.toNat*z)).take z=V:=by rw[ex,<-U,Un,KY,<-N,List.take_left]
    have a3:xs.drop (i.toNat*z+z)=x2:=by rw[ex,<-U,<-N,show x1.length+V.length=(x1++V).length by simp,KY]
    rw[a1,a2,a3]at hsp;have J:=Zgj (ZO j _ _ Z) (ZO j _ _ F) O;rw[a]at J;refine⟨⟨E.S,E.w.setRow b _,E.ids⟩,_,a6,X.Zur I rfl W (row:=some b) (λg r=>by simp at r;subst r;exact y) u (.hsp et e d i (cells.take O++(sx.cells++cells.drop (O+sx.cells.length))) fp) (λ_ g u=>u) ?_,j,k,u⟩;refine⟨_,x1++(V.take O++x.cells.toList++V.drop (O+Q.size))++x2,x1,_,x2,f1,W,⟨?_,.inr ⟨b,a8,_,q,?_,b4,setRow_heap E.w b cur _ et (0,0) hh,by simpa using G,b9,?_,?_⟩⟩,b5,b6,rfl,by rw[U,s],?_,?_,?_,J,ef,p⟩
    ·have a7:=ho.1
     rw[ex]at a7;rw[s];simp only[Uh,Uo,US,a]at a7 ⊢;omega
    ·rw[d0,b2]
    ·rw[U6,s]
     simp only[Uh,Uo,US,a];rw[<-l]at D;omega
    ·rw[KI,s];exact hsp
    ·rw[s]
     simp only[Uh,Uo,US,a];omega
    ·exact X4 _ _ _ (λd vs f hs=>Yw j.S j.w e d vs f (M f (λg u=>hs g u))) d1
    ·exact VN (λd vs=>Yo j.S j.w e.ty d vs) _ _ d2
  ·exact k.elim
 ·exact k.elim
theorem Zxy (m:Inv B E H) {b:TI} (h:Zdi P T b) {x:Value} (a:den E s v) (Z:den E sx x) (k:Zxx b s sx H K):∃E' H',(Instr.storeAt T v x).run P E.w=.ok () E'.w/\Inv B E' H'/\E.le E'/\K H'/\E.w.grownBy E'.w (Yv v):=by
 unfold Zxx at k;split at k
 ·rename_i I z i O
  obtain⟨C,l,k⟩:=Y0 H k;split at k
  ·rename_i c e d n f
   obtain⟨rfl,p,o,k⟩:=k;have t:i.toNat<d.length:=by omega
   have g:d[i.toNat]?=some d[i.toNat]:=Ua t;have k:=k _ g;simp only[Qg,Xu]at k;have A:=Zvd m l o g;exact Zov A h a Z (UF (Ub.1 l).1) k
  ·rename_i c e d j cells f
   obtain⟨rfl,k⟩:=k;exact Zov m h a Z l k
  ·exact Zr7 m h a Z k
 ·exact Zr7 m h a Z k
def ZvO (c:TypeId) (e:Dp) (I:Nat) (H:List Entry) (K:List e.ty.den->Int->List Entry->Prop):Prop :=
 ZgN H I λC=>match C with
  | .arr E t d=>if h:t=e.ty then(if E=c then ZhD H I .gone λH'=>Zux h d λD=>K D 0 H' else False)else False
  | .spl E a d n _=>if h:a=e then(if E=c then ZhD H I .gone λH'=>Zso h d λD=>K D n H' else False)else False
  | .hsp E a d i cells _=>if h:a=e then (if E=c then ZhD H I .gone λH0=>Zso h d λD=>Jd e cells H0 λx R H1=>match R with
    |[]=>K (D.set i.toNat x) (i+1) H1
    |_=>False
   else False) else False
  |_=>False
theorem ZvP {X:TypeId} (m:Inv B E H) {gs:List Nat} (L:Loose B E H gs) {K:List e.ty.den->Int->List Entry->Prop} (P:ZvO X e I H K) :
  ∃E' H' d n u f,Frz E H E' H'/\Inv B E' H'/\E'.ids[I]?=some u/\(∀c,H[I]?≠some (.box c))/\ZCp E'.S E'.w X e d n u f/\K d n H'/\Loose B E' H' (f++gs)/\∀(i:Nat) (c:List SV),H[i]?=some (.box c)->H'[i]?=some (.box c):=by
 unfold ZvO at P;obtain⟨en,l,a⟩:=Y0 H P;clear P;split at a
 ·rename_i r t d
  split at a
  ·rename_i z;subst z
   split at a
   ·rename_i k;subst k
    rw[Xu,Zto] at a;obtain ⟨v,xs,e1,G,h3⟩:=m.ent I _ l;refine ⟨E,_,d,0,v,(Yv v).toList,Frz.one l rfl e1 rfl (Env.le.refl E) (λb p=>.inl p),m.drop I,e1,(λc q=>by rw[l] at q;cases q),⟨xs,[],xs,[],G,by omega,by omega,rfl,by simp,⟨rfl,rfl⟩,h3,by simp⟩,a,?_,Zix l (λc h=>by cases h)⟩;exact L.take m l rfl e1 (by cases Yv v<;>simp) (λg s=>by
     show Yv v=some g;simpa using s)
   ·exact a.elim
  ·exact a.elim
 ·rename_i r A d n F
  split at a
  ·rename_i z;subst z
   split at a
   ·rename_i k;subst k
    rw[Xu,Zi7]at a;obtain⟨v,e1,hr,h5⟩:=m.ent I _ l;exact⟨E,_,d,n,v,F,Frz.one l rfl e1 rfl (Env.le.refl E) (λb p=>.inl p),m.drop I,e1,(λc q=>by rw[l]at q;cases q),hr,a,L.take m l rfl e1 h5 (λg s=>s),Zix l (λc h=>by cases h)⟩
   ·exact a.elim
  ·exact a.elim
 ·rename_i r A d i cells F
  split at a
  ·rename_i z;subst z
   split at a
   ·rename_i k;subst k
    rw[Xu,Zi7]at a;obtain⟨v,xs,x1,vx,x2,f1,e1,G,a1,a2,ex,el,C,T,U,O,ef,R⟩:=m.ent I _ l;have t1:Frz E H E (H.set I .gone):=Frz.one l rfl e1 rfl (Env.le.refl E) (λb p=>.inl p);obtain⟨E',H',x,a0,u1,u2,f,o,J,Y,V,D,a,N,hT,p⟩:=Zco A cells (m.drop I) O (L.take m l rfl e1 R (λg s=>s)) a;split at a
    ·have W:u2=[]:=by cases u2 with
      |nil=>rfl
      |cons=>simp[Yf]at D
     subst W;rw[Um]at Y;subst Y;have M:∀(g:Nat),E'.w.heap[g]?=E.w.heap[g]?:=λg=>by rw[o.w]
     have Q:i.toNat<d.length:=by omega
     have Z:(f++(F++gs)).Perm ((Yv v).toList++(f1++f)++gs):=by
      rw[<-Un];refine List.Perm.append_right gs ?_;rw[ef,<-Un (Yv v).toList];exact UU
     have y:(d.set i.toNat x).take (i.toNat+1)=d.take i.toNat++[x]:=by
      rw[List.take_add_one,UF Q,List.take_set,List.set_eq_of_length_le (by simp;omega)];rfl
     refine⟨E',H',d.set i.toNat x,i+1,v,(Yv v).toList++(f1++f),t1.trans o,J,by rw[o.ids];exact e1,(λc q=>by rw[l]at q;cases q),⟨xs,x1++vx,x2,f1++f,?_,by omega,by simp;omega,by rw[ex],?_,?_,?_,rfl⟩,a,N.perm Z,λj c hj=>p j c (Zix l (λc h=>by cases h) j c hj)⟩
     ·rw[UZ,o.w];exact G
     ·rw[Uh,el,C,show(i+1).toNat=i.toNat+1 by omega,U4]
     ·rw[show(i+1).toNat=i.toNat+1 by omega,y]
      exact ZgZ _ _ _ _ _ _ (X4 _ _ _ (λd vs f _=>Yw o.le.S o.le.w A d vs f (λg _=>M g)) T) ⟨vx,[],f,[],by simp,by simp,V,rfl,rfl⟩
     ·rw[show(i+1).toNat=i.toNat+1 by omega,List.drop_set_of_lt (by omega)]
      exact VN (λd vs=>Yo o.le.S o.le.w A.ty d vs) _ _ U
    ·exact a.elim
   ·exact a.elim
  ·exact a.elim
 ·exact a.elim
end
end Go.Sx
