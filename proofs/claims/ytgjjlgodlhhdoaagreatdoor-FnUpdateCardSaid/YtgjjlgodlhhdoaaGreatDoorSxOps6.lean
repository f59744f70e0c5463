/-
  Composite values; lists of the call's own: literals, make, append; lengths; conversions.
-/
import Derived.Test.YtgjjlgodlhhdoaaGreatDoorSxOps5
import Derived.Laws.MakeOwn
import Derived.Laws.OwnMore
namespace Go.Sx
set_option linter.unusedVariables false
set_option linter.unusedSimpArgs false
section
variable {P:Program}
def Zp9 (regs:List SV):List (Nat×Operand)->(List (Nat×SV)->Prop)->Prop
 | [],K=>K []
 | (i,x)::r,K=>Vh regs x λs=>Zp9 regs r λl=>K ((i,s)::l)
def Zek (E:Env):List (Nat×SV)->List (Nat×Value)->Prop
 | [],[]=>True
 | (i,s)::r,(j,v)::q=>i=j/\den E s v/\Zek E r q
 | _,_=>False
theorem ZkM {E:Env} {regs:List SV} {a:Act} (hd:ZT E regs a.tmps.toList):∀ (ps:List (Nat×Operand)) {K:List (Nat×SV)->Prop},Zp9 regs ps K->
  ∃ l,Zek E l (ps.map λx=>(x.1,a.eval x.2))/\K l
 | [],K,h=>⟨[],trivial,h⟩
 | (i,x)::r,K,h=>by
  obtain ⟨s,hs,h⟩:=Yb hd h;obtain ⟨l,hl,h⟩:=ZkM hd r h;exact ⟨(i,s)::l,⟨rfl,hs,hl⟩,h⟩
def Zox (place:Nat->(Nat->Nat->Prop)->Prop):List SV->List (Nat×SV)->(List SV->Prop)->Prop
 | z,[],K=>K z
 | z,(i,s)::r,K=>place i λoff sz=>if s.whole=true/\s.cells.length=sz/\off+sz<=z.length then Zhs z off s.cells λz'=>Zox place z' r K else False
theorem ZrU (cs:Array Value) (off:Nat) (v:Value) (h:off+v.cells.size<=cs.size) :
  (v.cells.zipIdx.foldl (λcs (x:Value×Nat)=>cs.setIfInBounds (off+x.2) x.1) cs).toList=cs.toList.take off++v.cells.toList++cs.toList.drop (off+v.cells.size):=by
 have he:v.cells.zipIdx.foldl (λcs (x:Value×Nat)=>cs.setIfInBounds (off+x.2) x.1) cs=(v.cells.toList.zipIdx 0).foldl (λcs (x:Value×Nat)=>cs.setIfInBounds (off+x.2) x.1) cs:=by
  rw[<-Array.foldl_toList,Array.toList_zipIdx]
 rw[he];obtain ⟨h1,h2⟩:=Great.foldl_set off v.cells.toList 0 cs;apply List.ext_getElem?;intro k;rw[Array.getElem?_toList,h2 k];simp only[List.getElem?_append,List.getElem?_take,List.getElem?_drop,List.length_take,List.length_append,Array.length_toList,Nat.add_zero,Array.getElem?_toList];have e1:min off cs.size=off:=by omega
 simp only[e1];by_cases a1:k<off
 ·have:¬(off<=k/\k<off+v.cells.size/\k<cs.size):=by omega
  have a2:k<off+v.cells.size:=by omega
  rw[if_neg this,if_pos a2,if_pos a1,if_pos a1]
 ·by_cases a2:k<off+v.cells.size
  ·have:(off<=k/\k<off+v.cells.size/\k<cs.size):=by omega
   simp[this,a1,a2]
  ·have:¬(off<=k/\k<off+v.cells.size/\k<cs.size):=by omega
   have e:off+v.cells.size+(k-(off+v.cells.size))=k:=by omega
   simp[this,a1,a2,e]
theorem ZhK {E:Env} (place:Nat->(Nat->Nat->Prop)->Prop) (p:Nat->Option (Nat×Nat)) (hp:∀ i K,place i K->∃ o s,p i=some (o,s)/\K o s) :
  ∀ (ps:List (Nat×SV)) (qs:List (Nat×Value)),Zek E ps qs->∀ (z:List SV) (cs:Array Value) {K:List SV->Prop},ZT E z cs.toList->Zox place z ps K->
   ∃ z' cs',Instr.fill p cs qs=some cs'/\ZT E z' cs'.toList/\K z'
 | [],[],_,z,cs,K,hz,h=>⟨z,cs,rfl,hz,h⟩
 | (i,s)::r,(j,v)::q,hd,z,cs,K,hz,h=>by
  obtain ⟨rfl,hs,hr⟩:=hd;simp only[Zox] at h;obtain ⟨o,sz,hpi,h⟩:=hp i _ h;split at h
  ·rename_i hc
   obtain ⟨hw,hlen,hfit⟩:=hc;rw[Zfg] at h;have hdc:=Vt hs hw;have hl:=Yl _ _ hdc;have hzl:=Yl _ _ hz;have hvs:v.cells.size=sz:=by rw[<-Array.length_toList,<-hl,hlen]
   have hstep:=ZrU cs o v (by rw[hvs,<-Array.length_toList,<-hzl];exact hfit);have hsp:=Zei hz hdc o;obtain ⟨z',cs',h1,h2,h3⟩:=ZhK place p hp r q hr _ (v.cells.zipIdx.foldl (λcs (x:Value×Nat)=>cs.setIfInBounds (o+x.2) x.1) cs) (by rw[hstep];simpa using hsp) h;refine ⟨z',cs',?_,h2,h3⟩;unfold Instr.fill;simp only[hpi];have hzs:cs.size=z.length:=by rw[hzl,Array.length_toList]
   have hcond:¬((decide (v.cells.size≠sz)||decide (o+v.cells.size > cs.size))=true):=by
    have h1:¬(o+sz > z.length):=by omega
    simp[hvs,hzs,h1]
   rw[if_neg hcond];exact h1
  ·exact h.elim
 | [],_::_,hd,_,_,_,_,_=>by simp[Zek] at hd
 | _::_,[],hd,_,_,_,_,_=>by simp[Zek] at hd
def Zrq (ti:TI) (ps:List (Nat×SV)) (K:SV->Prop):Prop :=
 Zk9 ti.zero λz =>
  match ti.kind with
  | .st=>Zox (λi k=>Zwr ti.flds i λo s _=>k o s) z ps λcs=>K (.agg cs)
  | .arr _=>Zox (λi k=>k (i*ti.esize) ti.esize) z ps λcs=>K (.agg cs)
  | _=>False
theorem Zm3 {T:TypeId} {ti:TI} (h:ZbB P T ti) {fs:Array Field} (hd:P.underlying T=some (.struct fs)) :
  fs.toList.mapM (λf=>(P.info? f.type).map λi=>(f.offset,i.size))=some (ti.flds.map λx=>(x.1,x.2.1)):=by
 have:=h.flds;rw[hd] at this;simp only at this;revert this;generalize ti.flds=fl;generalize fs.toList=l;intro this;induction l generalizing fl with
 | nil=>cases fl with
  | nil=>rfl
  | cons=>simp at this
 | cons f l ih =>
  cases fl with
  | nil=>simp at this
  | cons x fl =>
   simp only[List.map_cons,List.cons.injEq,Prod.mk.injEq] at this;obtain ⟨⟨h1,h2,_⟩,h4⟩:=this;cases hi:P.info? f.type with
   | none=>simp[hi] at h2
   | some i =>
    simp[hi] at h2;simp[List.mapM_cons,ih fl h4,hi,h1,h2]
theorem Zrr {E:Env} {T:TypeId} {ti:TI} (h:ZbB P T ti) {ps:List (Nat×SV)} {qs:Array (Nat×Value)} (hd:Zek E ps qs.toList) {K:SV->Prop} (hk:Zrq ti ps K) :
  ∃ u s,Zlb P (Instr.build T qs) u/\den E s u/\K s:=by
 unfold Zrq at hk;obtain ⟨z,hz,hk⟩:=Zd9 E _ _ hk;obtain ⟨i,hi,_,_,hzero⟩:=h.info';split at hk
 ·rename_i hkk
  obtain ⟨d0,hdd,hk'⟩:=h.get;rw[hkk] at hk';obtain ⟨fs,rfl⟩:∃ fs,d0=.struct fs:=by cases d0<;>simp[Zq4] at hk';exact ⟨_,rfl⟩
  obtain ⟨z',cs',h1,h2,h3⟩:=ZhK (E:=E) (λi k=>Zwr ti.flds i λo s _=>k o s) (((ti.flds.map λx=>(x.1,x.2.1)).toArray)[·]?) (λi K hh=>by
   obtain ⟨o,s,g,e,hk⟩:=ZmM _ hh;exact ⟨o,s,by simp[e],hk⟩) ps qs.toList hd z ti.zero.cells hz hk
  refine ⟨_,_,λw=>run_build w T qs cs' ?_,by simp only[den];exact ⟨cs'.toList,by simp,h2⟩,h3⟩;unfold Program.built;simp only[hi,hdd,hzero,Zm3 h hdd];exact h1
 ·rename_i n hdd
  obtain ⟨hu,_,ie,hie,hs,_,_⟩:=h.array hdd;obtain ⟨z',cs',h1,h2,h3⟩:=ZhK (E:=E) (λi k=>k (i*ti.esize) ti.esize) (λi=>some (i*ti.esize,ti.esize)) (λi K hh=>⟨_,_,rfl,hh⟩) ps qs.toList hd z ti.zero.cells hz hk;refine ⟨_,_,λw=>run_build w T qs cs' ?_,by simp only[den];exact ⟨cs'.toList,by simp,h2⟩,h3⟩;unfold Program.built;simp only[hi,hu,hzero,hie,hs];exact h1
 ·exact hk.elim
def ZmN (t:Ty):Nat->List SV->(List t.den->Prop)->Prop
 | 0,_,K=>K []
 | n+1,cs,K=>Xi t cs λx r=>ZmN t n r λl=>K (x::l)
theorem ZkK {E:Env} (t:Ty):∀ (n:Nat) (cs:List SV) {K:List t.den->Prop} (vs:List Value),ZT E cs vs->vs.length=n*t.size->ZmN t n cs K->
  ∃ l,l.length=n/\XZ (rep E.S E.w t) l vs/\K l
 | 0,cs,K,vs,_,hl,h=>⟨[],rfl,by simp[XZ];exact List.eq_nil_of_length_eq_zero (by simpa using hl),h⟩
 | n+1,cs,K,vs,hd,hl,h=>by
  obtain ⟨x,r,v1,v2,e,h1,h2,h3⟩:=Y4 t cs _ vs hd h;have hl1:=Xj t x v1 h1;obtain ⟨l,hl',hr,hk⟩:=ZkK t n r v2 h2 (by
   subst e;rw[List.length_append,hl1,Nat.succ_mul] at hl;omega) h3
  exact ⟨x::l,by simp[hl'],⟨v1,v2,e,h1,hr⟩,hk⟩
def ZeM (et:TypeId) (t:Ty) (d:List t.den) (H:List Entry) (K:SV->List Entry->Prop):Prop :=
 Zoj H 0 λn=>Zmi H [.arr et t d] λH'=>K (.own n) H'
theorem ZkH {B:Base} {E:Env} {H:List Entry} (hI:Inv B E H) {et:TypeId} {t:Ty} {d:List t.den} {K:SV->List Entry->Prop} (hk:ZeM et t d H K) (cs:Array Value) (cap:Nat)
  (hc:d.length<=cap) (hm:cap<=maxLen) (hs:cs.size=cap*t.size) (hr:XZ (rep E.S E.w t) d (cs.toList.take (d.length*t.size))) :
  ∃ E' H' s,E'.w=E.w.alloc (.cells cs et)/\Inv B E' H'/\E.le E'/\den E' s (.slice (some ⟨E.w.heap.size,0,none⟩) d.length cap)/\K s H':=by
 unfold ZeM at hk;rw[Zax,Ju,Nat.zero_add] at hk;have hle:=Zmh hI (.cells cs et) (.slice (some ⟨E.w.heap.size,0,none⟩) d.length cap);have hid:(E.ids++[Value.slice (some ⟨E.w.heap.size,0,none⟩) d.length cap])[H.length]?=some (.slice (some ⟨E.w.heap.size,0,none⟩) d.length cap):=by
  rw[<-hI.len];simp
 refine ⟨⟨E.S,E.w.alloc (.cells cs et),E.ids++[.slice (some ⟨E.w.heap.size,0,none⟩) d.length cap]⟩,_,_,rfl,hI.alloc (.cells cs et) _ _ rfl ?_,hle,?_,hk⟩
 ·refine ⟨_,cs.toList.take (d.length*t.size),hid,⟨?_,.inr ⟨_,cap,cs,0,rfl,Nat.zero_le _,Go.heap_alloc_new _ _,hc,hm,by rw[Nat.zero_add];exact Nat.le_of_eq hs.symm,by rw[List.drop_zero]⟩⟩,QD (λd vs=>Z7 hle.S hle.w t d vs) _ _ hr⟩
  have hcl:cs.toList.length=cs.size:=Array.length_toList;rw[List.length_take,hcl,hs];have:=Nat.mul_le_mul_right t.size hc;omega
 ·simp only[den]
  exact ⟨hid,_,_,_,rfl⟩
def Zw1 (z:List SV):Nat->(List SV->Prop)->Prop
 | 0,K=>K []
 | n+1,K=>Zw1 z n λl=>Zmi z l K
theorem ZoU (z:List SV):∀ (n:Nat) (K:List SV->Prop),Zw1 z n K=K (List.replicate n z).flatten
 | 0,_=>rfl
 | n+1,K=>by simp[Zw1,ZoU z n,Ju,List.replicate_succ]
theorem Zmn {E:Env} {z:List SV} {vs:List Value} (h:ZT E z vs):∀ n,ZT E (List.replicate n z).flatten (List.replicate n vs).flatten
 | 0=>trivial
 | n+1=>by simpa[List.replicate_succ] using Jw _ _ h _ _ (Zmn h n)
theorem Zbh? (vs:List Value):∀ (n k:Nat),(List.replicate n vs).flatten[k]?=if k<n*vs.length then vs[k % vs.length]? else none
 | 0,k=>by simp
 | n+1,k=>by
  rw[List.replicate_succ,List.flatten_cons,List.getElem?_append];by_cases h:k<vs.length
  ·rw[if_pos h,if_pos (by rw[Nat.succ_mul];omega),Nat.mod_eq_of_lt h]
  ·rw[if_neg h,Zbh? vs n (k-vs.length)]
   have e:(k-vs.length) % vs.length=k % vs.length:=by
    rw[<-Nat.mod_eq_sub_mod (by omega)]
   rw[e,Nat.succ_mul];by_cases h2:k<n*vs.length+vs.length
   ·rw[if_pos (by omega),if_pos h2]
   ·rw[if_neg (by omega),if_neg h2]
theorem ZeJ (z:Array Value) (n:Nat):(madeCells z (n*z.size)).toList=(List.replicate n z.toList).flatten:=by
 apply List.ext_getElem?;intro k;rw[Zbh?,Array.length_toList];simp only[madeCells,Array.toList_map,Array.toList_range,List.getElem?_map,List.getElem?_range];by_cases h:k<n*z.size
 ·have hz:0<z.size:=by
   rcases Nat.eq_zero_or_pos z.size with h0 | h0
   ·rw[h0] at h;omega
   ·exact h0
  have hk:k % z.size<z.size:=Nat.mod_lt _ hz;simp[h,hk]
 ·simp[h]
def Zg9 (ti:TI) (len:Nat) (ps:List (Nat×SV)) (H:List Entry) (K:SV->List Entry->Prop):Prop :=
 match ti.kind with
 | .sl=>if len=0/\ps.isEmpty=true then ZeM ti.elem ti.ety [] H K else Zk9 ti.ezero λz=>if z.length=ti.esize/\ti.ety.size=ti.esize/\0<len*ti.esize/\len*ti.esize<=16777216 then
   Zw1 z len λzz=>Zox (λi k=>k (i*ti.esize) ti.esize) zz ps λcs=>Qu cs H λcs' H'=>ZmN ti.ety len cs' λd=>ZeM ti.elem ti.ety d H' K
  else False
 | _=>False
theorem Zou {E E':Env} (h:E.le E'):∀ (ps:List (Nat×SV)) (qs:List (Nat×Value)),Zek E ps qs->Zek E' ps qs
 | [],[],_=>trivial
 | (i,s)::r,(j,v)::q,hd=>by simp only[Zek] at hd;exact ⟨hd.1,ZdX h s v hd.2.1,Zou h r q hd.2.2⟩
 | [],_::_,hd=>by simp[Zek] at hd
 | _::_,[],hd=>by simp[Zek] at hd
theorem Zle {B:Base} {E:Env} {H:List Entry} (hI:Inv B E H) {T:TypeId} {ti:TI} (h:ZbB P T ti) {len:Nat} {ps:List (Nat×SV)} {qs:Array (Nat×Value)} (hd:Zek E ps qs.toList)
  {K:SV->List Entry->Prop} (hk:Zg9 ti len ps H K) :
  ∃ u E' H' s,(Instr.buildSlice T len qs).run P E.w=.ok u E'.w/\Inv B E' H'/\E.le E'/\den E' s u/\K s H'/\Grow E.w E'.w:=by
 unfold Zg9 at hk;split at hk
 ·rename_i hdd
  split at hk
  ·rename_i h0
   obtain ⟨rfl,hps⟩:=h0;have hps:ps=[]:=by simpa using hps
   subst hps;have hq:qs.toList=[]:=by cases hql:qs.toList with
    | nil=>rfl
    | cons q r=>rw[hql] at hd;simp[Zek] at hd
   obtain ⟨hu,_,ie,hie,hs,_,hzero⟩:=h.slice hdd;obtain ⟨E2,H2,s,hw2,hI2,hle2,hd2,hk⟩:=ZkH hI hk #[] 0 (by simp) (by unfold maxLen;omega) (by simp) (by simp[XZ]);refine ⟨_,E2,H2,s,?_,hI2,hle2,hd2,hk,by rw[hw2];exact ZaP _ _⟩;rw[hw2];simp[Instr.buildSlice,run_underlying hu,sizeOf,typeInfo,hie,hq,Instr.fill,newRow];congr 2;apply Array.ext';simp
  obtain ⟨z,hz,hk⟩:=Zd9 E _ _ hk;split at hk
  ·rename_i hc
   obtain ⟨hz1,hz2,hpos,hbig⟩:=hc;obtain ⟨hu,_,ie,hie,hs,_,hzero⟩:=h.slice hdd;rw[ZoU] at hk;have hzl:=Yl _ _ hz;have hzs:ti.ezero.cells.size=ti.esize:=by rw[<-Array.length_toList,<-hzl,hz1]
   have hmade:(madeCells ti.ezero.cells (len*ti.esize)).toList=(List.replicate len ti.ezero.cells.toList).flatten:=by
    rw[<-hzs];exact ZeJ _ _
   obtain ⟨z',cs',h1,h2,h3⟩:=ZhK (E:=E) (λi k=>k (i*ti.esize) ti.esize) (λi=>some (i*ti.esize,ti.esize)) (λi K hh=>⟨_,_,rfl,hh⟩) ps qs.toList hd _ (madeCells ti.ezero.cells (len*ti.esize)) (by rw[hmade];exact Zmn hz len) hk;obtain ⟨E1,H1,cs2,hw1,hid1,hI1,hle1,hd1,hk⟩:=Zkp _ hI h2 h3;have hsize:∀ (qs:List (Nat×Value)) (c c':Array Value),Instr.fill (λi=>some (i*ti.esize,ti.esize)) c qs=some c'->c'.size=c.size:=by
    intro qs;induction qs with
    | nil=>intro c c' hh;simp[Instr.fill] at hh;rw[hh]
    | cons q qs ih =>
     intro c c' hh;obtain ⟨i,v⟩:=q;simp only[Instr.fill] at hh;split at hh
     ·cases hh
     ·have:=ih _ _ hh
      rw[this,<-Array.foldl_toList,Array.toList_zipIdx];exact (Great.foldl_set (i*ti.esize) v.cells.toList 0 c).1
   have hcs:cs'.size=len*ti.esize:=by rw[hsize _ _ _ h1,size_madeCells]
   obtain ⟨d,hdl,hdr,hk⟩:=ZkK ti.ety len cs2 cs'.toList hd1 (by rw[Array.length_toList,hcs,hz2]) hk;have hlen1:1<=ti.esize:=by
    rcases Nat.eq_zero_or_pos ti.esize with h0 | h0
    ·rw[h0] at hpos;omega
    ·exact h0
   have hlm:len<=maxLen:=by
    have:=Nat.mul_le_mul_left len hlen1;unfold maxLen;omega
   obtain ⟨E2,H2,s,hw2,hI2,hle2,hd2,hk⟩:=ZkH hI1 hk cs' len (by omega) hlm (by rw[hcs,hz2]) (by
    rw[hdl,hz2,<-hcs,<-Array.length_toList,List.take_length];exact hdr)
   refine ⟨_,E2,H2,s,?_,hI2,hle1.trans hle2,hd2,hk,by rw[hw2,hw1];exact ZaP _ _⟩;rw[hw2,hw1,hdl];exact run_buildSlice E.w T ti.elem len qs cs' ie ti.ezero hu hie hzero (by rw[hs];omega) (by rw[hs];omega) (by rw[hs];exact h1)
  ·exact hk.elim
 ·exact hk.elim
def ZvR (ti:TI) (sl sc:SV) (H:List Entry) (K:SV->List Entry->Prop):Prop :=
 match ti.kind,sl,sc with
 | .sl,.int _ l,.int _ c=>Zk9 ti.ezero λz=>if z.length=ti.esize/\ti.ety.size=ti.esize then
   0<=l/\l<=c/\c<=4611686018427387904/\(ti.ebytes:Int)*c<=281474976710656/\Xi ti.ety z λx _=>ZeM ti.elem ti.ety (List.replicate l.toNat x) H K
  else False
 | _,_,_=>False
theorem Zf3 {α:Type} {R:α->List Value->Prop} {x:α} {vs:List Value} (h:R x vs):∀ n,XZ R (List.replicate n x) (List.replicate n vs).flatten
 | 0=>by simp[XZ]
 | n+1=>by simpa[List.replicate_succ,XZ] using ⟨vs,_,rfl,h,Zf3 h n⟩
theorem ZtX {B:Base} {E:Env} {H:List Entry} (hI:Inv B E H) {T:TypeId} {ti:TI} (h:ZbB P T ti) {sl sc:SV} {vl vc:Value} (hl:den E sl vl) (hc:den E sc vc)
  {K:SV->List Entry->Prop} (hk:ZvR ti sl sc H K) :
  ∃ u E' H' s,(Instr.makeSlice T vl vc).run P E.w=.ok u E'.w/\Inv B E' H'/\E.le E'/\den E' s u/\K s H'/\Grow E.w E'.w:=by
 unfold ZvR at hk;split at hk
 ·rename_i kl l kc c hdd
  obtain ⟨z,hz,hk⟩:=Zd9 E _ _ hk;split at hk
  ·rename_i hcond
   obtain ⟨hz1,hz2⟩:=hcond;obtain ⟨h0,hlc,hc63,hby,hk⟩:=hk;obtain ⟨hu,_,ie,hie,hs,hb,hzero⟩:=h.slice hdd;simp only[den] at hl hc;subst hl;subst hc;have hzl:=Yl _ _ hz;have hzs:ti.ezero.cells.size=ti.esize:=by rw[<-Array.length_toList,<-hzl,hz1]
   obtain ⟨x,r,v1,v2,e1,hr,_,hk⟩:=Y4 _ _ _ _ hz hk;have hv1:v1=ti.ezero.cells.toList:=by
    have h2:=Xj _ _ _ hr;have h3:=congrArg List.length e1;rw[List.length_append,Array.length_toList,hzs,h2,hz2] at h3;have:v2=[]:=List.eq_nil_of_length_eq_zero (by omega);rw[e1,this,List.append_nil]
   have hmade:(madeCells ti.ezero.cells (c.toNat*ti.esize)).toList=(List.replicate c.toNat ti.ezero.cells.toList).flatten:=by
    rw[<-hzs];exact ZeJ _ _
   obtain ⟨E2,H2,s,hw2,hI2,hle2,hd2,hk⟩:=ZkH hI hk (madeCells ti.ezero.cells (c.toNat*ti.esize)) c.toNat (by rw[List.length_replicate];omega) (by unfold maxLen;omega) (by rw[size_madeCells,hz2]) (by
    have hc:=Zf3 hr c.toNat;have:=Zhm (λd vs=>Xj ti.ety d vs) _ _ hc l.toNat;rw[List.take_replicate] at this;rw[List.length_replicate,hmade,<-hv1]
    rwa [show min l.toNat c.toNat=l.toNat by omega] at this)
   refine ⟨_,E2,H2,s,?_,hI2,hle2,hd2,hk,by rw[hw2];exact ZaP _ _⟩;rw[hw2,List.length_replicate,<-hs];exact run_make E.w T ti.elem ie ti.ezero hu hie hzero kl kc l c h0 hlc (by rw[hb];exact hby) (by omega)
  ·exact hk.elim
 ·exact hk.elim
end
end Go.Sx
