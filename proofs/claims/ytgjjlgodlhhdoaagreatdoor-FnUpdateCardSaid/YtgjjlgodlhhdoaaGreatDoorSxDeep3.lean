/-
  Lists that own lists: made, written out, cut.
-/
import Derived.Test.YtgjjlgodlhhdoaaGreatDoorSxDeep2
namespace Go.Sx
set_option linter.unusedVariables false
set_option linter.unusedSimpArgs false
section
variable {P:Program}
def Zte:(e:Dp)->List SV->(e.ty.den->List SV->Prop)->Prop
 | .flat t,cs,K=>Xi t cs K
 | .ol _ _,cs,K=>match cs with
  | .nsl::r=>K [] r
  | _=>False
 | .mp _ _,_,_=>False
 | .pair a b,cs,K=>Zte a cs λx r=>Zte b r λy r'=>K (x,y) r'
theorem Zm9 {E:Env}:∀ (e:Dp) (cs:List SV) {K:e.ty.den->List SV->Prop} (vs:List Value),ZT E cs vs->Zte e cs K->
  ∃ d r v1 v2,vs=v1++v2/\Zfj E.S E.w e d v1 []/\ZT E r v2/\K d r
 | .flat t,cs,K,vs,hd,hk=>by
  obtain ⟨d,r,v1,v2,a,b,c,k⟩:=Y4 t cs K vs hd hk;exact ⟨d,r,v1,v2,a,⟨rfl,b⟩,c,k⟩
 | .ol et e,cs,K,vs,hd,hk=>by
  simp only[Zte] at hk;split at hk
  ·rename_i r
   match vs,hd with
   | [],hd=>simp[ZT] at hd
   | v::vs,hd =>
    simp only[ZT,den] at hd;obtain ⟨rfl,hd⟩:=hd;exact ⟨[],r,[_],vs,rfl,⟨_,[],[],rfl,World.ZgI _ _ _ _,⟨rfl,rfl⟩,rfl⟩,hd,hk⟩
  ·exact hk.elim
 | .mp _ _,cs,K,vs,hd,hk=>hk.elim
 | .pair a b,cs,K,vs,hd,hk=>by
  obtain ⟨x,r,v1,v2,e1,h1,h2,hk⟩:=Zm9 a cs vs hd hk;obtain ⟨y,r',v3,v4,e2,h3,h4,hk⟩:=Zm9 b r v2 h2 hk;exact ⟨(x,y),r',v1++v3,v4,by rw[e1,e2,List.append_assoc],⟨v1,v3,[],[],rfl,rfl,h1,h3⟩,h4,hk⟩
theorem Zgu {α:Type} {R:α->List Value->List Nat->Prop} {x:α} {vs:List Value} (h:R x vs []):∀ n,JV R (List.replicate n x) (List.replicate n vs).flatten []
 | 0=>by simp[JV]
 | n+1=>by
  simp only[List.replicate_succ,List.flatten_cons];exact ⟨vs,_,[],[],rfl,rfl,h,Zgu h n⟩
theorem ZiI {α:Type} {R:α->List Value->List Nat->Prop} {n:Nat} (hn:∀ d vs f,R d vs f->vs.length=n):∀ l xs fp,JV R l xs fp->∀ i,∃ f1 f2,fp=f1++f2/\JV R (l.take i) (xs.take (i*n)) f1
 | [],xs,fp,h,i=>⟨[],[],by rw[h.2];rfl,by rw[h.1];simp[JV]⟩
 | d::l,xs,fp,h,0=>⟨[],fp,rfl,by simp[JV]⟩
 | d::l,_,_,⟨v1,v2,f1,f2,e,ef,r,rs⟩,i+1=>by
  obtain ⟨g1,g2,h1,h2⟩:=ZiI hn l v2 f2 rs i;have hl:=hn _ _ _ r;subst e;refine ⟨f1++g1,g2,by rw[ef,h1,List.append_assoc],?_⟩;rw[List.take_succ_cons,show (i+1)*n=v1.length+i*n by rw[hl,Nat.succ_mul];omega,List.take_append];exact ⟨v1,_,f1,g1,by simp[List.take_of_length_le],rfl,r,h2⟩
theorem ZlV {α:Type} {R:α->List Value->List Nat->Prop} {n:Nat} (hn:∀ d vs f,R d vs f->vs.length=n):∀ l xs fp,JV R l xs fp->∀ i,∃ f1 f2,fp=f1++f2/\JV R (l.drop i) (xs.drop (i*n)) f2
 | [],xs,fp,h,i=>⟨[],[],by rw[h.2];rfl,by rw[h.1];simp[JV]⟩
 | d::l,xs,fp,h,0=>⟨[],fp,rfl,by simpa using h⟩
 | d::l,_,_,⟨v1,v2,f1,f2,e,ef,r,rs⟩,i+1=>by
  obtain ⟨g1,g2,h1,h2⟩:=ZlV hn l v2 f2 rs i;have hl:=hn _ _ _ r;subst e;refine ⟨f1++g1,g2,by rw[ef,h1,List.append_assoc],?_⟩;rw[List.drop_succ_cons,show (i+1)*n=v1.length+i*n by rw[hl,Nat.succ_mul];omega,<-List.drop_drop,List.drop_left];exact h2
theorem Zj1 {B:Base} {E:Env} {H:List Entry} (hI:Inv B E H) {et:TypeId} {e:Dp} {d:List e.ty.den} {K:SV->List Entry->Prop} (hk:Zhk et e d H K) (cs:Array Value) (cap:Nat) {f gs:List Nat} (hL:Loose B E H (f++gs))
  (hc:d.length<=cap) (hm:cap<=maxLen) (hs:cs.size=cap*e.ty.size) (hr:JV (Zfj E.S E.w e) d (cs.toList.take (d.length*e.ty.size)) f) :
  ∃ E' H' s,E'.w=E.w.alloc (.cells cs et)/\Inv B E' H'/\E.le E'/\den E' s (.slice (some ⟨E.w.heap.size,0,none⟩) d.length cap)/\K s H':=by
 have hg:E.w.grownBy (E.w.alloc (.cells cs et)) none:=World.grownBy_alloc E.w _ none;obtain ⟨hI1,hle1,_,hL1⟩:=hL.write hI (row:=none) (λg h=>by cases h) hg;have hL1:=hL1 (by simp);have keep:∀ g∈f,(E.w.alloc (.cells cs et)).heap[g]?=E.w.heap[g]?:=λg hgm=>hg.block g (hL.free g (by simp[hgm])).2.2 (by simp);have hrD:Zfj E.S (E.w.alloc (.cells cs et)) (.ol et e) d [.slice (some ⟨E.w.heap.size,0,none⟩) d.length cap] (E.w.heap.size::f):=by
  refine ⟨_,cs.toList.take (d.length*e.ty.size),f,rfl,⟨?_,.inr ⟨_,cap,cs,0,rfl,Nat.zero_le _,Go.heap_alloc_new _ _,hc,hm,by rw[Nat.zero_add];exact Nat.le_of_eq hs.symm,by rw[List.drop_zero]⟩⟩,?_,rfl⟩
  ·have hcl:cs.toList.length=cs.size:=Array.length_toList
   rw[List.length_take,hcl,hs];have:=Nat.mul_le_mul_right e.ty.size hc;omega
  ·exact Xk _ _ _ (λd vs f' hs=>Ye hle1.S hle1.w e d vs f' (λg hgm=>keep g (hs g hgm))) hr
 obtain ⟨E2,H2,s,hw2,hI2,hle2,hd2,hk⟩:=ZiE hI1 hrD (gs:=gs) hL1 hk;exact ⟨E2,H2,s,hw2,hI2,hle1.trans hle2,hd2,hk⟩
def ZvQ (ti:TI) (sl sc:SV) (H:List Entry) (K:SV->List Entry->Prop):Prop :=
 match ti.edp with
 | none=>ZvR ti sl sc H K
 | some e=>match ti.kind,sl,sc with
  | .sl,.int _ l,.int _ c=>Zk9 ti.ezero λz=>if z.length=ti.esize/\e.ty.size=ti.esize then
    0<=l/\l<=c/\c<=4611686018427387904/\(ti.ebytes:Int)*c<=281474976710656/\Zte e z λx _=>Zhk ti.elem e (List.replicate l.toNat x) H K
   else False
  | _,_,_=>False
theorem Loose.none (B:Base) (E:Env) (H:List Entry):Loose B E H []:=⟨List.nodup_nil,λg hg=>by simp at hg,λg hg=>by simp at hg⟩
theorem ZtW {B:Base} {E:Env} {H:List Entry} (hI:Inv B E H) {T:TypeId} {ti:TI} (h:ZbB P T ti) {sl sc:SV} {vl vc:Value} (hl:den E sl vl) (hc:den E sc vc)
  {K:SV->List Entry->Prop} (hk:ZvQ ti sl sc H K) :
  ∃ u E' H' s,(Instr.makeSlice T vl vc).run P E.w=.ok u E'.w/\Inv B E' H'/\E.le E'/\den E' s u/\K s H'/\Grow E.w E'.w:=by
 unfold ZvQ at hk;split at hk
 ·exact ZtX hI h hl hc hk
 ·rename_i e _
  split at hk
  ·rename_i kl l kc c hdd
   obtain ⟨z,hz,hk⟩:=Zd9 E _ _ hk;split at hk
   ·rename_i hcond
    obtain ⟨hz1,hz2⟩:=hcond;obtain ⟨h0,hlc,hc63,hby,hk⟩:=hk;obtain ⟨hu,_,ie,hie,hs,hb,hzero⟩:=h.slice hdd;simp only[den] at hl hc;subst hl;subst hc;have hzl:=Yl _ _ hz;have hzs:ti.ezero.cells.size=ti.esize:=by rw[<-Array.length_toList,<-hzl,hz1]
    obtain ⟨x,r,v1,v2,e1,hr,_,hk⟩:=Zm9 _ _ _ hz hk;have hv1:v1=ti.ezero.cells.toList:=by
     have h2:=ZaB _ _ _ _ hr;have h3:=congrArg List.length e1;rw[List.length_append,Array.length_toList,hzs,h2,hz2] at h3;have:v2=[]:=List.eq_nil_of_length_eq_zero (by omega);rw[e1,this,List.append_nil]
    have hmade:(madeCells ti.ezero.cells (c.toNat*ti.esize)).toList=(List.replicate c.toNat ti.ezero.cells.toList).flatten:=by
     rw[<-hzs];exact ZeJ _ _
    obtain ⟨E2,H2,s,hw2,hI2,hle2,hd2,hk⟩:=Zj1 hI hk (madeCells ti.ezero.cells (c.toNat*ti.esize)) c.toNat (f:=[]) (gs:=[]) (Loose.none B E H) (by rw[List.length_replicate];omega) (by unfold maxLen;omega) (by rw[size_madeCells,hz2]) (by
     obtain ⟨f1,f2,hf,this⟩:=ZiI (λd vs f=>ZaB e d vs f) _ _ _ (Zgu hr c.toNat) l.toNat;have hf1:f1=[]:=by cases f1 with
      | nil=>rfl
      | cons=>simp at hf
     subst hf1;rw[List.take_replicate] at this;rw[List.length_replicate,hmade,<-hv1]
     rwa [show min l.toNat c.toNat=l.toNat by omega] at this)
    refine ⟨_,E2,H2,s,?_,hI2,hle2,hd2,hk,by rw[hw2];exact ZaP _ _⟩;rw[hw2,List.length_replicate,<-hs];exact run_make E.w T ti.elem ie ti.ezero hu hie hzero kl kc l c h0 hlc (by rw[hb];exact hby) (by omega)
   ·exact hk.elim
  ·exact hk.elim
def Ze7 (e:Dp):Nat->List SV->List Entry->(List e.ty.den->List Entry->Prop)->Prop
 | 0,cs,H,K=>match cs with
  | []=>K [] H
  | _=>False
 | n+1,cs,H,K=>QU e cs H λx r H1=>Ze7 e n r H1 λl H2=>K (x::l) H2
theorem ZhC {B:Base} {e:Dp}:∀ (n:Nat) (cs:List SV) {E:Env} {H:List Entry} (_:Inv B E H) {vs:List Value} (_:ZT E cs vs) {gs:List Nat} (_:Loose B E H gs) {K:List e.ty.den->List Entry->Prop} (_:Ze7 e n cs H K),
  ∃ E' H' l f,Frz E H E' H'/\Inv B E' H'/\l.length=n/\JV (Zfj E'.S E'.w e) l vs f/\K l H'/\Loose B E' H' (f++gs)
 | 0,cs,E,H,hI,vs,hd,gs,hL,K,hk=>by
  simp only[Ze7] at hk;split at hk
  ·match vs,hd with
   | [],_=>exact ⟨E,H,[],[],Frz.refl E H,hI,rfl,⟨rfl,rfl⟩,hk,hL⟩
   | _::_,hd=>simp[ZT] at hd
  ·exact hk.elim
 | n+1,cs,E,H,hI,vs,hd,gs,hL,K,hk=>by
  simp only[Ze7] at hk;obtain ⟨E1,H1,x,r,v1,v2,f1,hf1,hI1,e1,hr1,hd1,hk,hL1,_,_⟩:=ZaM e cs hI hd hL hk;obtain ⟨E2,H2,l,f2,hf2,hI2,hl2,hr2,hk,hL2⟩:=ZhC n r hI1 hd1 hL1 hk;refine ⟨E2,H2,x::l,f1++f2,hf1.trans hf2,hI2,by simp[hl2],⟨v1,v2,f1,f2,e1,rfl,?_,hr2⟩,hk,?_⟩
  ·exact Ye hf2.le.S hf2.le.w e _ _ _ (λg _=>by rw[hf2.w]) hr1
  ·refine hL2.perm ?_
   rw[<-List.append_assoc];exact List.perm_append_comm.append_right gs
def Zg8 (ti:TI) (len:Nat) (ps:List (Nat×SV)) (H:List Entry) (K:SV->List Entry->Prop):Prop :=
 match ti.edp with
 | none=>Zg9 ti len ps H K
 | some e=>match ti.kind with
  | .sl=>if len=0/\ps.isEmpty=true then Zhk ti.elem e [] H K else Zk9 ti.ezero λz=>if z.length=ti.esize/\e.ty.size=ti.esize/\0<len*ti.esize/\len*ti.esize<=16777216 then
    Zw1 z len λzz=>Zox (λi k=>k (i*ti.esize) ti.esize) zz ps λcs=>Ze7 e len cs H λd H'=>Zhk ti.elem e d H' K
   else False
  | _=>False
theorem Zld {B:Base} {E:Env} {H:List Entry} (hI:Inv B E H) {T:TypeId} {ti:TI} (h:ZbB P T ti) {len:Nat} {ps:List (Nat×SV)} {qs:Array (Nat×Value)} (hd:Zek E ps qs.toList)
  {K:SV->List Entry->Prop} (hk:Zg8 ti len ps H K) :
  ∃ u E' H' s,(Instr.buildSlice T len qs).run P E.w=.ok u E'.w/\Inv B E' H'/\E.le E'/\den E' s u/\K s H'/\Grow E.w E'.w:=by
 unfold Zg8 at hk;split at hk
 ·exact Zle hI h hd hk
 ·rename_i e _
  split at hk
  ·rename_i hdd
   split at hk
   ·rename_i h0
    obtain ⟨rfl,hps⟩:=h0;have hps:ps=[]:=by simpa using hps
    subst hps;have hq:qs.toList=[]:=by cases hql:qs.toList with
     | nil=>rfl
     | cons q r=>rw[hql] at hd;simp[Zek] at hd
    obtain ⟨hu,_,ie,hie,hs,_,hzero⟩:=h.slice hdd;obtain ⟨E2,H2,s,hw2,hI2,hle2,hd2,hk⟩:=Zj1 hI hk #[] 0 (f:=[]) (gs:=[]) (Loose.none B E H) (by simp) (by unfold maxLen;omega) (by simp) (by simp[JV]);refine ⟨_,E2,H2,s,?_,hI2,hle2,hd2,hk,by rw[hw2];exact ZaP _ _⟩;rw[hw2];simp[Instr.buildSlice,run_underlying hu,sizeOf,typeInfo,hie,hq,Instr.fill,newRow];congr 2;apply Array.ext';simp
   obtain ⟨z,hz,hk⟩:=Zd9 E _ _ hk;split at hk
   ·rename_i hc
    obtain ⟨hz1,hz2,hpos,hbig⟩:=hc;obtain ⟨hu,_,ie,hie,hs,_,hzero⟩:=h.slice hdd;rw[ZoU] at hk;have hzl:=Yl _ _ hz;have hzs:ti.ezero.cells.size=ti.esize:=by rw[<-Array.length_toList,<-hzl,hz1]
    have hmade:(madeCells ti.ezero.cells (len*ti.esize)).toList=(List.replicate len ti.ezero.cells.toList).flatten:=by
     rw[<-hzs];exact ZeJ _ _
    obtain ⟨z',cs',h1,h2,h3⟩:=ZhK (E:=E) (λi k=>k (i*ti.esize) ti.esize) (λi=>some (i*ti.esize,ti.esize)) (λi K hh=>⟨_,_,rfl,hh⟩) ps qs.toList hd _ (madeCells ti.ezero.cells (len*ti.esize)) (by rw[hmade];exact Zmn hz len) hk;obtain ⟨E1,H1,d,f,hf1,hI1,hdl,hdr,hk,hL1⟩:=ZhC len _ hI h2 (Loose.none B E H) h3;have hsize:∀ (qs:List (Nat×Value)) (c c':Array Value),Instr.fill (λi=>some (i*ti.esize,ti.esize)) c qs=some c'->c'.size=c.size:=by
     intro qs;induction qs with
     | nil=>intro c c' hh;simp[Instr.fill] at hh;rw[hh]
     | cons q qs ih =>
      intro c c' hh;obtain ⟨i,v⟩:=q;simp only[Instr.fill] at hh;split at hh
      ·cases hh
      ·have:=ih _ _ hh
       rw[this,<-Array.foldl_toList,Array.toList_zipIdx];exact (Great.foldl_set (i*ti.esize) v.cells.toList 0 c).1
    have hcs:cs'.size=len*ti.esize:=by rw[hsize _ _ _ h1,size_madeCells]
    have hlen1:1<=ti.esize:=by
     rcases Nat.eq_zero_or_pos ti.esize with h0 | h0
     ·rw[h0] at hpos;omega
     ·exact h0
    have hlm:len<=maxLen:=by
     have:=Nat.mul_le_mul_left len hlen1;unfold maxLen;omega
    obtain ⟨E2,H2,s,hw2,hI2,hle2,hd2,hk⟩:=Zj1 hI1 hk cs' len hL1 (by omega) hlm (by rw[hcs,hz2]) (by
     rw[hdl,hz2,<-hcs,<-Array.length_toList,List.take_length];exact hdr)
    refine ⟨_,E2,H2,s,?_,hI2,hf1.le.trans hle2,hd2,hk,by rw[hw2,hf1.w];exact ZaP _ _⟩;rw[hw2,hf1.w,hdl];exact run_buildSlice E.w T ti.elem len qs cs' ie ti.ezero hu hie hzero (by rw[hs];omega) (by rw[hs];omega) (by rw[hs];exact h1)
   ·exact hk.elim
  ·exact hk.elim
def ZwC:List Entry->Nat->Option (TypeId×Dp)
 | [],_=>none
 | e::_,0=>match e with
  | .arr et t _=>some (et,.flat t)
  | _=>none
 | _::r,n+1=>ZwC r n
def Zx9 (s:SV) (H:List Entry):Option (TypeId×Dp) :=
 match s with
 | .own id=>ZwC H id
 | _=>none
def ZxD (et:TypeId) (e:Dp) (ti:TI) (regs:List SV) (x:SV) (lo hi:Option Operand) (H:List Entry) (K:SV->List Entry->Prop):Prop :=
 if e.ty.size=ti.esize then closeAll (.ol et e) [x] H λd H1=>ZeB regs lo 0 λl=>ZeB regs hi d.length λh=>0<=l/\l<=h/\h<=(d.length:Int)/\Qg (.ol et e) ((d.drop l.toNat).take (h.toNat-l.toNat)) H1 λcs H2=>match cs with
  | [s]=>K s H2
  | _=>False
 else False
def ZsQ (ti:TI) (regs:List SV) (x:SV) (lo hi:Option Operand) (H:List Entry) (K:SV->List Entry->Prop):Prop :=
 match ti.kind with
 | .sl=>match ZrH x H with
   | some (et,e)=>ZxD et e ti regs x lo hi H K
   | none=>if ti.cut=true then (match Zx9 x H with
     | some (et,e)=>ZxD et e ti regs x lo hi H K
     | none=>Zn1 ti regs x lo hi H K) else Zn1 ti regs x lo hi H K
 | _=>Zn1 ti regs x lo hi H K
theorem ZqS {w:World} {et:TypeId} {sz n:Nat} {v:Value} {xs:List Value} (h:w.Q8 0 et sz v n xs) {l k:Nat} (hlk:l<=k) (hk:k<=n) :
  ∃ a cap,v=.slice a n cap/\n<=cap/\w.Q8 0 et sz (.slice (if cap-l=0 then a else a.map (·.add (l*sz))) (k-l) (cap-l)) (k-l) ((xs.drop (l*sz)).take ((k-l)*sz))/\(Yh (.slice (if cap-l=0 then a else a.map (·.add (l*sz))) (k-l) (cap-l))).toList=(Yh v).toList:=by
 have hx:=h.1;have hle:l*sz+(k-l)*sz<=n*sz:=by rw[<-Nat.add_mul];exact Nat.mul_le_mul_right _ (by omega)
 rcases h.2 with ⟨rfl,rfl⟩ | ⟨g,cap,cur,o,rfl,hg,hh,hcap,hml,hcs,ht⟩
 ·have h1:k=0:=by omega
  have h2:l=0:=by omega
  subst h1;subst h2;exact ⟨none,0,rfl,Nat.le_refl _,⟨by simp,.inl ⟨by simp,rfl⟩⟩,by simp[Yh]⟩
 ·have hlen:((xs.drop (l*sz)).take ((k-l)*sz)).length=(k-l)*sz:=by
   rw[List.length_take,List.length_drop,hx];omega
  refine ⟨_,cap,rfl,hcap,?_⟩;by_cases hz:cap-l=0
  ·rw[if_pos hz]
   have hkl:k-l=0:=by omega
   refine ⟨⟨hlen,.inr ⟨g,cap-l,cur,o,rfl,hg,hh,by omega,by omega,?_,?_⟩⟩,rfl⟩
   ·rw[hz,Nat.zero_mul];omega
   ·rw[hkl,Nat.zero_mul,List.take_zero,List.take_zero]
  ·rw[if_neg hz]
   have hsplit:l*sz+(cap-l)*sz=cap*sz:=by rw[<-Nat.add_mul];congr 1;omega
   refine ⟨⟨hlen,.inr ⟨g,cap-l,cur,o+l*sz,by simp only[Option.map_some,add_eq],hg,hh,by omega,by omega,by omega,?_⟩⟩,?_⟩
   ·rw[<-ht,List.drop_take,List.take_take,List.drop_drop,Nat.min_eq_left (by omega)]
   ·simp only[Option.map_some,add_eq];rfl
theorem ZrD {B:Base} {E:Env} {H:List Entry} (hI:Inv B E H) {regs:List SV} {a:Act} (hd:ZT E regs a.tmps.toList) {T:TypeId} {ti:TI} (h:ZbB P T ti) (hdd:ti.kind=.sl) {et:TypeId} {e:Dp} {x:SV} {v:Value} (hx:den E x v)
  {lo hi:Option Operand} {K:SV->List Entry->Prop} (hk:ZxD et e ti regs x lo hi H K) :
  ∃ u E' H' s,(Instr.sliceAt T v (lo.map a.eval) (hi.map a.eval) none).run P E.w=.ok u E'.w/\Inv B E' H'/\E.le E'/\den E' s u/\K s H'/\Grow E.w E'.w:=by
 unfold ZxD at hk;split at hk
 ·rename_i hes
  obtain ⟨E1,H1,d,f,hf,hI1,hr,hk,hL,_,_⟩:=Qi hI (show ZT E [x] [v] from ⟨hx,trivial⟩) (Loose.none B E H) hk;obtain ⟨l',hk,hll⟩:=JO (ZE hf.le _ _ hd) hk;obtain ⟨h',hk,hh⟩:=JO (ZE hf.le _ _ hd) hk;obtain ⟨h0,h1,h2,hk⟩:=hk;obtain ⟨v',xs,fps,ev,ho,hr,ef⟩:=hr;simp at ev;subst ev;obtain ⟨hu,_,ie,hie,hsz,_⟩:=h.slice hdd;obtain ⟨a0,cap,hv,hcap,ho',hb'⟩:=ZqS ho (l:=l'.toNat) (k:=h'.toNat) (by omega) (by omega);obtain ⟨f0,f3,ef0,hr0⟩:=ZlV (λd vs f=>ZaB e d vs f) _ _ _ hr l'.toNat;obtain ⟨f1,f2,ef2,hr'⟩:=ZiI (λd vs f=>ZaB e d vs f) _ _ _ hr0 (h'.toNat-l'.toNat);have hlen:((d.drop l'.toNat).take (h'.toNat-l'.toNat)).length=h'.toNat-l'.toNat:=by rw[List.length_take,List.length_drop];omega
  have hsub:List.Sublist ((Yh v).toList++f1) (f++[]):=by
   rw[List.append_nil,ef,ef0,ef2];exact List.Sublist.append (List.Sublist.refl _) ((List.sublist_append_left _ _).trans (List.sublist_append_right _ _))
  have hL1:Loose B E1 H1 ((Yh v).toList++f1++[]):=by
   rw[List.append_nil];exact ⟨hL.nodup.sublist hsub,λg hg=>hL.free g (hsub.subset hg),λg hg=>hL.apart g (hsub.subset hg)⟩
  have hrD:Zfj E1.S E1.w (.ol et e) ((d.drop l'.toNat).take (h'.toNat-l'.toNat)) [.slice (if cap-l'.toNat=0 then a0 else a0.map (·.add (l'.toNat*e.ty.size))) (h'.toNat-l'.toNat) (cap-l'.toNat)] ((Yh v).toList++f1) :=
   ⟨_,_,f1,rfl,by rw[hlen];exact ho',hr',by rw[hb']⟩
  obtain ⟨E2,H2,cs,hw2,hS2,hI2,hle2,hd2,hk,_,_⟩:=QS (.ol et e) _ hI1 hrD hL1 hk;split at hk
  ·rename_i s
   simp only[ZT] at hd2;refine ⟨_,E2,H2,s,?_,hI2,hf.le.trans hle2,hd2.1,hk,by rw[hw2,hf.w];exact Grow.refl _⟩;rw[hw2,hf.w,hv,hes,<-hsz];simp only[Instr.sliceAt,Instr.slice,Sem.run_bind,run_underlying hu,Result.andThen_ok];have hl':lo.map a.eval=none/\l'=0\/∃ k,lo.map a.eval=some (.int k l'):=by
    rcases hll with ⟨rfl,e⟩ | hll
    ·exact .inl ⟨rfl,e⟩
    ·exact .inr hll
   have hh':hi.map a.eval=none/\h'=(d.length:Int)\/∃ k,hi.map a.eval=some (.int k h'):=by
    rcases hh with ⟨rfl,e⟩ | hh
    ·exact .inl ⟨rfl,e⟩
    ·exact .inr hh
   rw[Zcv E.w true d.length cap _ _ l' h' h0 h1 (by omega) hl' hh'];simp only[Result.andThen_ok,run_sizeOf hie];by_cases hz:cap-l'.toNat=0
   ·have hz':cap=l'.toNat:=by omega
    simp[hz']
   ·have hz':¬cap=l'.toNat:=by omega
    simp[hz,hz']
  ·exact hk.elim
 ·exact hk.elim
theorem ZsR {B:Base} {E:Env} {H:List Entry} (hI:Inv B E H) {regs:List SV} {a:Act} (hd:ZT E regs a.tmps.toList) {T:TypeId} {ti:TI} (h:ZbB P T ti) {x:SV} {v:Value} (hx:den E x v)
  {lo hi:Option Operand} {K:SV->List Entry->Prop} (hk:ZsQ ti regs x lo hi H K) :
  ∃ u E' H' s,(Instr.sliceAt T v (lo.map a.eval) (hi.map a.eval) none).run P E.w=.ok u E'.w/\Inv B E' H'/\E.le E'/\den E' s u/\K s H'/\Grow E.w E'.w:=by
 unfold ZsQ at hk;split at hk
 ·rename_i hdd
  split at hk
  ·exact ZrD hI hd h hdd hx hk
  ·split at hk
   ·split at hk
    ·exact ZrD hI hd h hdd hx hk
    ·exact ZkT hI hd h hx hk
   ·exact ZkT hI hd h hx hk
 ·exact ZkT hI hd h hx hk
end
end Go.Sx
