/-
  What comes in, as data of the executor's: a reading of the arguments gives their codes' data; behind a call that only adds memory the arguments read as they did.
-/
import Derived.Test.YtgjjlgodlhhdoaaGreatDoorSxM
import Derived.ProofKit
import Derived.Below
import Derived.Carry
namespace Go.Sx
set_option linter.unusedVariables false
set_option linter.unusedSimpArgs false
open Go.RowKit Go.ChangeShapes Go.WideShapes
mutual
def Js (P:Program):Ty->TypeId->Bool
 | .int k,T=>ZpG k (P.underlying T)
 | .bool,T=>ZmC (P.underlying T)
 | .str,T=>ZpH (P.underlying T)
 | .sl t,T=>match P.underlying T with
  | some (.slice e)=>Js P t e&&P.cellsOf e == t.size&&decide (0<t.size)
  | _=>false
 | .pair a b,T=>match P.underlying T with
  | some (.struct fs)=>match fs.toList with
   | f::fl=>Js P a f.type&&f.offset == 0&&P.cellsOf f.type == a.size&&ZfY P b fl a.size&&P.cellsOf T == a.size+b.size
   | []=>false
  | _=>false
 | _,_=>false
def ZfY (P:Program):Ty->List Field->Nat->Bool
 | .unit,fl,_=>fl.isEmpty
 | .pair a b,fl,o=>match fl with
  | f::fl=>Js P a f.type&&f.offset == o&&P.cellsOf f.type == a.size&&ZfY P b fl (o+a.size)
  | []=>false
 | _,_,_=>false
end
def bnd:(t:Ty)->t.den->Prop
 | .int k,n=>k.min<=n/\n<=k.max
 | .str,s=>(s.length:Int)<=9223372036854775807
 | .sl t,l=>(l.length:Int)<=9223372036854775807/\∀ x∈l,bnd t x
 | .pair a b,d=>bnd a d.1/\bnd b d.2
 | _,_=>True
section
variable {H:Type} {enc:TypeId×Value->H} {P:Program} {w:World} {spare:Nat->Bool} {held:Bool}
theorem ZwD (s:ByteArray):(⟨s.data.toList.toArray⟩:ByteArray)=s:=by
 cases s;simp
theorem ZsD {t:Ty} {S:Nat->Prop} {p:Addr} {n:Nat} (hn:t.size=n):∀ (len:Nat) (css:List (List Value)),css.length=len->
  (∀ (i:Nat) (cs:List Value),css[i]?=some cs->cs.length=n/\∃ d:t.den,rep S w t d cs/\bnd t d)->
  ∃ l:List t.den,l.length=len/\XZ (rep S w t) l css.flatten/\∀ x∈l,bnd t x:=by
 intro len;induction len with
 | zero =>
  intro css hl _;have:css=[]:=List.eq_nil_of_length_eq_zero hl;subst this;exact ⟨[],rfl,rfl,by simp⟩
 | succ len ih =>
  intro css hl h;cases css with
  | nil=>simp at hl
  | cons cs css =>
   obtain ⟨_,d,hd,hb⟩:=h 0 cs rfl;obtain ⟨l,h1,h2,h3⟩:=ih css (by simpa using hl) (λi c hc=>h (i+1) c (by simpa using hc));refine ⟨d::l,by simp[h1],⟨cs,css.flatten,by simp,hd,h2⟩,?_⟩;intro x hx;rcases List.mem_cons.1 hx with rfl | hx
   ·exact hb
   ·exact h3 x hx
theorem Zj9 {n:Nat}:∀ (css:List (List Value)) (_:∀ cs∈css,cs.length=n) (i j:Nat) (cs:List Value) (_:css[i]?=some cs) (_:j<n),css.flatten[i*n+j]?=cs[j]?
 | [],_,i,j,cs,h,_=>by simp at h
 | c::css,hl,0,j,cs,h,hj=>by
  simp at h;subst h;have:=hl c (by simp);simp[List.getElem?_append_left (show j<c.length by omega)]
 | c::css,hl,i+1,j,cs,h,hj=>by
  have hc:=hl c (by simp);have:=Zj9 css (λx hx=>hl x (by simp[hx])) i j cs (by simpa using h) hj;rw[List.flatten_cons,List.getElem?_append_right (by rw[hc,Nat.succ_mul];omega),hc,show (i+1)*n+j-n=i*n+j by rw[Nat.succ_mul];omega];exact this
theorem Zka {n:Nat}:∀ (css:List (List Value)) (_:∀ cs∈css,cs.length=n),css.flatten.length=css.length*n
 | [],_=>by simp
 | c::css,hl=>by
  have hc:=hl c (by simp);have:=Zka css (λx hx=>hl x (by simp[hx]));simp only[List.flatten_cons,List.length_append,List.length_cons,this,hc,Nat.succ_mul];omega
mutual
theorem ZjX:∀ (ty:Ty) (fuel:Nat) (T:TypeId) (cs:List Value) (x:DataW H×List MemPlace),Js P ty T=true->DataW.trod enc P w 0 spare held fuel T cs=some x->
  ∃ d:ty.den,rep (λb=>b<w.heap.size) w ty d cs/\bnd ty d
 | .int k,fuel,T,cs,x,hf,h=>by
  simp only[Js] at hf;obtain ⟨n,h1,_,hw⟩:=DataW.trod_int (Zgn hf) h;exact ⟨n,h1,(by simpa[Go.Lit.wf] using hw:k.min<=n/\n<=k.max)⟩
 | .bool,fuel,T,cs,x,hf,h=>by
  simp only[Js] at hf;obtain ⟨b,h1,_⟩:=DataW.trod_bool (Zix hf) h;exact ⟨b,h1,trivial⟩
 | .str,fuel,T,cs,x,hf,h=>by
  simp only[Js] at hf;obtain ⟨s,h1,_,hs⟩:=DataW.trod_string (ZkA hf) h;refine ⟨s.data.toList,?_,?_⟩
  ·show cs=[.string ⟨s.data.toList.toArray⟩]
   rw[h1,ZwD]
  ·show ((s.data.toList.length:Nat):Int)<=_
   clear h h1;have:s.data.toList.length=s.size:=by cases s;rfl
   unfold maxLen at hs;omega
 | .sl t,fuel,T,cs,x,hf,h=>by
  unfold Js at hf;split at hf
  ·rename_i e hu
   simp only[Bool.and_eq_true,beq_iff_eq,decide_eq_true_eq] at hf;obtain ⟨⟨hf,hsz⟩,hpos⟩:=hf;rcases DataW.trod_slice hu h with ⟨h1,_⟩ | ⟨a,len,cap,elems,rest,n,rfl,rfl,_,_,hlc,hcap,hel,hget,_⟩
   ·refine ⟨[],?_,by show ((0:Nat):Int)<=9223372036854775807;omega,λx hx=>(by cases hx)⟩
    show rep _ w (.sl t) [] cs;exact ⟨none,0,by rw[h1];rfl,by simp,λ_=>rfl,.inl rfl⟩
   ·-- the elements' cells
    have hcss:∃ css:List (List Value),css.length=len/\∀ (i:Nat) (c:List Value),css[i]?=some c->w.cells? 0 (a.add (i*t.size)) t.size=some c/\∃ d:t.den,rep (λb=>b<w.heap.size) w t d c/\bnd t d:=by
     have:∀ m,m<=len->∃ css:List (List Value),css.length=m/\∀ (i:Nat) (c:List Value),css[i]?=some c->w.cells? 0 (a.add (i*t.size)) t.size=some c/\∃ d:t.den,rep (λb=>b<w.heap.size) w t d c/\bnd t d:=by
      intro m;induction m with
      | zero=>intro _;exact ⟨[],rfl,by simp⟩
      | succ m ih =>
       intro hm;obtain ⟨css,h1,h2⟩:=ih (by omega);have hg:=hget m (by omega);rw[List.getElem?_eq_getElem (by omega)] at hg;obtain ⟨c,hc,hcx⟩:=Option.bind_eq_some_iff.1 hg;rw[hsz] at hc;obtain ⟨d,hd,hb⟩:=ZjX t n e c _ hf hcx;refine ⟨css++[c],by simp[h1],λi c' hi=>?_⟩;by_cases him:i<m
       ·rw[List.getElem?_append_left (by omega)] at hi
        exact h2 i c' hi
       ·have:i=m:=by
         have:=(List.getElem?_eq_some_iff.1 hi).1;simp[h1] at this;omega
        subst this;rw[List.getElem?_append_right (by omega),h1] at hi;simp at hi;subst hi;exact ⟨hc,d,hd,hb⟩
     exact this len (Nat.le_refl _)
    obtain ⟨css,hcl,hcs⟩:=hcss;have hlens:∀ c∈css,c.length=t.size:=by
     intro c hc;obtain ⟨i,hi⟩:=List.mem_iff_getElem?.1 hc;exact (World.cells?_some (hcs i c hi).1).2.1
    obtain ⟨l,hl,hr,hb⟩:=ZsD (S:=λb=>b<w.heap.size) (w:=w) (t:=t) (p:=a) rfl len css hcl (λi c hi=>⟨hlens c (List.mem_of_getElem? hi),(hcs i c hi).2⟩);refine ⟨l,?_,by unfold maxLen at hcap;omega,hb⟩;refine ⟨some a,cap,by rw[hl],by omega,λe=>(by cases e),?_⟩;cases css with
    | nil =>
     left;simp at hcl;exact List.eq_nil_of_length_eq_zero (by omega)
    | cons c0 css =>
     right;have h0:=(hcs 0 c0 rfl).1;rw[Nat.zero_mul] at h0;have ha0:a.add 0=a:=by unfold Addr.add;simp
     rw[ha0] at h0;have hspot:a.spot=none:=by
      have h1:=(World.cells?_some h0).2.2 0 hpos;rw[ha0] at h1;have hlen0:=(World.cells?_some h0).2.1;rw[List.getElem?_eq_getElem (by omega)] at h1;unfold World.cell? at h1;split at h1
      ·split at h1
       ·cases h1
       ·rename_i hs;simpa using hs
      ·cases h1
     refine ⟨a,(c0::css).flatten,rfl,hspot,World.cells?_block h0 hpos,λj u hu=>?_,hr⟩;have hjl:=(List.getElem?_eq_some_iff.1 hu).1;rw[Zka _ hlens] at hjl;have hdm:j / t.size*t.size+j % t.size=j:=by rw[Nat.mul_comm];exact Nat.div_add_mod j t.size
     have hq:j / t.size<(c0::css).length:=by rw[Nat.div_lt_iff_lt_mul hpos];exact hjl
     obtain ⟨c,hc⟩:∃ c,(c0::css)[j / t.size]?=some c:=⟨_,List.getElem?_eq_getElem hq⟩;have h2:=Zj9 (c0::css) hlens (j / t.size) (j % t.size) c hc (Nat.mod_lt _ hpos);rw[hdm,hu] at h2;have h3:=(World.cells?_some (hcs _ c hc).1).2.2 (j % t.size) (Nat.mod_lt _ hpos);rw[add_add _ _ _ hspot,hdm] at h3;rw[h3];exact h2.symm
  ·cases hf
 | .pair a b,fuel,T,cs,x,hf,h=>by
  unfold Js at hf;split at hf
  ·rename_i fs hu
   split at hf
   ·rename_i f fl hfl
    simp only[Bool.and_eq_true,beq_iff_eq] at hf;obtain ⟨⟨⟨⟨h1,h2⟩,h3⟩,h4⟩,h5⟩:=hf;obtain ⟨xs,n,rfl,_,hlen,hxl,hget⟩:=DataW.trod_struct hu h;have hsz:fs.size=fl.length+1:=by
     have:=congrArg List.length hfl;simpa using this
    have hf0:fs[0]?=some f:=by
     have:=congrArg (·[0]?) hfl;simpa using this
    have hg:=hget 0 f hf0;rw[List.getElem?_eq_getElem (by omega),h2,h3] at hg;obtain ⟨d,hd,hb⟩:=ZjX a n f.type _ _ h1 hg;have hrest:∀ (i:Nat) (g:Field),fl[i]?=some g->∃ y,DataW.trod enc P w 0 spare held n g.type ((cs.drop g.offset).take (P.cellsOf g.type))=some y:=by
     intro i g hgi;have hg1:fs[i+1]?=some g:=by
      have:=congrArg (·[i+1]?) hfl;simp only[List.getElem?_cons_succ,hgi,Array.getElem?_toList] at this;exact this
     have:=hget (i+1) g hg1;have hi:=(List.getElem?_eq_some_iff.1 hgi).1;rw[List.getElem?_eq_getElem (by omega)] at this;exact ⟨_,this⟩
    obtain ⟨d2,hd2,hb2⟩:=Zof b n fl a.size cs h4 (by omega) hrest;refine ⟨(d,d2),⟨(cs.drop 0).take a.size,cs.drop a.size,by simp,hd,hd2⟩,hb,hb2⟩
   ·cases hf
  ·cases hf
 | .unit,_,_,_,_,hf,_=>by simp[Js] at hf
 | .ptr _,_,_,_,_,hf,_=>by simp[Js] at hf
 | .fn _ _,_,_,_,_,hf,_=>by simp[Js] at hf
 | .nptr _,_,_,_,_,hf,_=>by simp[Js] at hf
 | .mp _ _,_,_,_,_,hf,_=>by simp[Js] at hf
theorem Zof:∀ (ty:Ty) (n:Nat) (fl:List Field) (o:Nat) (cs:List Value),ZfY P ty fl o=true->cs.length=o+ty.size->
  (∀ (i:Nat) (g:Field),fl[i]?=some g->∃ y,DataW.trod enc P w 0 spare held n g.type ((cs.drop g.offset).take (P.cellsOf g.type))=some y)->
  ∃ d:ty.den,rep (λb=>b<w.heap.size) w ty d (cs.drop o)/\bnd ty d
 | .unit,n,fl,o,cs,hf,hl,h=>by
  refine ⟨(),?_,trivial⟩;show cs.drop o=[];simp only[Ty.size] at hl;exact List.drop_eq_nil_of_le (by omega)
 | .pair a b,n,fl,o,cs,hf,hl,h=>by
  unfold ZfY at hf;split at hf
  ·rename_i f fl
   simp only[Bool.and_eq_true,beq_iff_eq] at hf;obtain ⟨⟨⟨h1,h2⟩,h3⟩,h4⟩:=hf;obtain ⟨y,hy⟩:=h 0 f rfl;rw[h2,h3] at hy;obtain ⟨d,hd,hb⟩:=ZjX a n f.type _ _ h1 hy;obtain ⟨d2,hd2,hb2⟩:=Zof b n fl (o+a.size) cs h4 (by simp only[Ty.size] at hl;omega) (λi g hg=>h (i+1) g (by simpa using hg));refine ⟨(d,d2),⟨(cs.drop o).take a.size,cs.drop (o+a.size),?_,hd,hd2⟩,hb,hb2⟩;rw[<-List.drop_drop];exact (List.take_append_drop _ _).symm
  ·cases hf
 | .int _,_,_,_,_,hf,_,_=>by simp[ZfY] at hf
 | .bool,_,_,_,_,hf,_,_=>by simp[ZfY] at hf
 | .str,_,_,_,_,hf,_,_=>by simp[ZfY] at hf
 | .sl _,_,_,_,_,hf,_,_=>by simp[ZfY] at hf
 | .ptr _,_,_,_,_,hf,_,_=>by simp[ZfY] at hf
 | .fn _ _,_,_,_,_,hf,_,_=>by simp[ZfY] at hf
 | .nptr _,_,_,_,_,hf,_,_=>by simp[ZfY] at hf
 | .mp _ _,_,_,_,_,hf,_,_=>by simp[ZfY] at hf
end
theorem Zs3 {ty:Ty} {T:TypeId} {v:Value} {d:DataW H} {ps:List MemPlace} {base:Nat} (hf:Js P ty T=true) (hok:Value.okWide P w .any base T v) (h:DataW.Trod enc P w 0 spare held T v d ps) :
  ∃ x:ty.den,Zwu (λb=>b<w.heap.size) w ty x v/\bnd ty x:=by
 obtain ⟨fuel,h⟩:=h;obtain ⟨x,hx,hb⟩:=ZjX ty fuel T _ _ hf h;refine ⟨x,⟨?_,?_,hx⟩,hb⟩
 ·intro ha
  cases ty with
  | pair a b =>
   unfold Js at hf;split at hf
   ·rename_i fs hu
    obtain ⟨cs,hcs,_⟩:=okWide_struct hu hok;exact ⟨cs,hcs⟩
   ·cases hf
  | unit=>simp[Js] at hf
  | _=>simp[Ty.agg] at ha
 ·intro ha
  have hna:∀ cs,v≠.agg cs:=by
   intro cs e;subst e;cases ty with
   | int k=>simp only[Js] at hf;simp[Value.okWide,Zgn hf,Cell.okWide,Cell.ok] at hok
   | bool=>simp only[Js] at hf;simp[Value.okWide,Zix hf,Cell.okWide,Cell.ok] at hok
   | str=>simp only[Js] at hf;simp[Value.okWide,ZkA hf,Cell.okWide,Cell.ok] at hok
   | sl t =>
    unfold Js at hf;split at hf
    ·rename_i e hu;simp[Value.okWide,hu,Cell.okWide,Cell.ok] at hok
    ·cases hf
   | pair a b=>simp[Ty.agg] at ha
   | unit=>simp[Ty.agg] at ha
   | ptr _=>simp[Js] at hf
   | fn _ _=>simp[Js] at hf
   | nptr _=>simp[Js] at hf
   | mp _ _=>simp[Js] at hf
  cases v<;>first | rfl | exact absurd rfl (hna _)
def ZiY:List Ty->List Sh
 | []=>[]
 | t::r=>.dat t::ZiY r
def Zyb:(l:List Ty)->Shs (ZiY l)->Prop
 | [],_=>True
 | t::r,d=>bnd t d.1/\Zyb r d.2
def Zin (P:Program):List Ty->List TypeId->Bool
 | [],[]=>true
 | t::r,T::q=>Js P t T&&Zin P r q
 | _,_=>false
theorem Zk5 {base:Nat}:∀ (l:List Ty) (ts:List TypeId) (vs:List Value) (ds:List (DataW H)) (p:List MemPlace),Zin P l ts=true->
  (∀ (j:Nat) t v,ts[j]?=some t->vs[j]?=some v->Value.okWide P w .any base t v)->DataW.TrodAll enc P w 0 spare held ts vs ds p->
  ∃ as:Shs (ZiY l),Zcw (λb=>b<w.heap.size) w (ZiY l) as vs []/\Zyb l as
 | [],[],vs,ds,p,_,_,h=>by
  obtain ⟨rfl,_,_⟩:=trodAll_nil h;exact ⟨(),⟨rfl,rfl⟩,trivial⟩
 | t::r,T::q,vs,ds,p,hf,hok,h=>by
  simp only[Zin,Bool.and_eq_true] at hf;obtain ⟨v,vs',d,ds',p1,p2,rfl,rfl,rfl,h1,h2⟩:=trodAll_cons h;obtain ⟨x,hx,hb⟩:=Zs3 hf.1 (hok 0 T v rfl rfl) h1;obtain ⟨as,has,hbs⟩:=Zk5 r q vs' ds' p2 hf.2 (λj t v hj hv=>hok (j+1) t v (by simpa using hj) (by simpa using hv)) h2;exact ⟨(x,as),⟨v,vs',[],[],rfl,rfl,⟨rfl,hx⟩,has⟩,hb,hbs⟩
 | [],_::_,_,_,_,hf,_,_=>by simp[Zin] at hf
 | _::_,[],_,_,_,hf,_,_=>by simp[Zin] at hf
theorem Zia (hl:laidOutB P=true) {W W':World} (hb:Below W.heap.size W W'):∀ (ts:List TypeId) (vs:List Value) (ds:List (DataW H)) (p:List MemPlace),(ts.all λt=>P.readableRec t&&decide (t<P.types.size))=true->
  DataW.TrodAll enc P W 0 (λ_=>true) true ts vs ds p->(∀ x∈p,x.block<W.heap.size)->DataW.TrodAll enc P W' 0 (λb=>decide (b<W.heap.size)) true ts vs ds p
 | [],vs,ds,p,_,h,_=>by
  obtain ⟨rfl,rfl,rfl⟩:=trodAll_nil h;rfl
 | t::ts,vs,ds,p,hr,h,hlt=>by
  simp only[List.all_cons,Bool.and_eq_true,decide_eq_true_eq] at hr;obtain ⟨v,vs',d,ds',p1,p2,rfl,rfl,rfl,h1,h2⟩:=trodAll_cons h;exact ⟨p1,p2,Below.trod hl hr.1.1 hr.1.2 h1 hb (λx hx=>hlt x (by simp[hx])),Zia hl hb ts vs' ds' p2 hr.2 h2 (λx hx=>hlt x (by simp[hx])),rfl⟩
theorem Zsd {f:FuncId} {l:List Ty} {tr:Shs (ZiY l)->(Shs [.dat .bool]->Ios (ZiY l)->Prop)->Prop} (hC:Za P f ⟨ZiY l,[.dat .bool],tr⟩)
  (htrue:∀ as:Shs (ZiY l),Zyb l as->tr as (λr _=>r.1=true)) {ts:List TypeId} {args:Array Value} {ds:List (DataW H)} {p:List MemPlace} {base:Nat} (hf:Zin P l ts=true)
  (hok:∀ (j:Nat) t v,ts[j]?=some t->args[j]?=some v->Value.okWide P w .any base t v) (h:DataW.TrodAll enc P w 0 spare held ts args.toList ds p) :
  Calls P f args w λe w'=>e=.returned (.bool true)/\Below w.heap.size w w':=by
 obtain ⟨as,has,hb⟩:=Zk5 l ts args.toList ds p hf (λj t v hj hv=>hok j t v hj (by simpa using hv)) h;have hc:=hC.2 w (λb=>b<w.heap.size) args.toList as [] (λr _=>r.1=true) (λb h=>h) has List.nodup_nil (by simp) (htrue as hb);have he:args.toList.toArray=args:=by simp
 rw[he] at hc;refine hc.mono ?_;rintro e w' ⟨v,us,rs,ios,S',fr,fio,rfl,hret,hr,hk,hS,hS2,hs,_⟩;obtain ⟨u,ur,f1,f2,rfl,_,⟨_,hu⟩,hur⟩:=hs;obtain ⟨rfl,_⟩:=hur;simp only[retv] at hret;subst hret;refine ⟨?_,hk.os,hk.tape,hk.output,hk.size,λb hb=>hk.block b hb (by simp)⟩;obtain ⟨h1,h2,h3⟩:=hu;have hv:=h2 rfl;rw[hv] at h3;have h4:[v]=[.bool rs.1]:=h3;simp at h4;rw[h4,hr]
end
end Go.Sx
