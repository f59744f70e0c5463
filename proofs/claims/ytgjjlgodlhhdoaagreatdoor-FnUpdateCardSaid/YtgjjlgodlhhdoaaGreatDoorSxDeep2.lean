/-
  New lists that own lists: append, make, literals, parts.
-/
import Derived.Test.YtgjjlgodlhhdoaaGreatDoorSxDeep
namespace Go.Sx
set_option linter.unusedVariables false
set_option linter.unusedSimpArgs false
section
variable {P:Program}
theorem Loose.write {B:Base} {E:Env} {H:List Entry} {gs:List Nat} (hL:Loose B E H gs) (hI:Inv B E H) {w':World} {row:Option Nat} (hrow:∀ g,row=some g->g∈gs) (hg:E.w.grownBy w' row) :
  Inv B ⟨E.S,w',E.ids⟩ H/\E.le ⟨E.S,w',E.ids⟩/\Loose B ⟨E.S,w',E.ids⟩ H gs/\(E.w.heap.size<w'.heap.size->Loose B ⟨E.S,w',E.ids⟩ H (E.w.heap.size::gs)):=by
 have hle:=Zce hg hI.Slt (λg e=>(hL.free g (hrow g e)).1);have hI':Inv B ⟨E.S,w',E.ids⟩ H :=
  {keeps:=hI.keeps.grown hg (λg e=>(hL.free g (hrow g e)).2.1)
   Slt:=λb hb=>Nat.lt_of_lt_of_le (hI.Slt b hb) hg.size
   Sold:=hI.Sold,len:=hI.len,pin:=hI.pin
   ent:=λi e hi=>Zcc hle i e (λhl v g hv hb=>hg.block g (hI.free i e v g hi hl hv hb).2.2 (λeq=>hL.apart g (hrow g eq.symm) i e v hi hl hv hb)) (hI.ent i e hi)
   free:=λi e v g hi hl hv hb=>by
    obtain ⟨a,b,c⟩:=hI.free i e v g hi hl hv hb;exact ⟨a,b,Nat.lt_of_lt_of_le c hg.size⟩
   sep:=hI.sep}
 have hL':Loose B ⟨E.S,w',E.ids⟩ H gs:=⟨hL.nodup,λg hgm=>by
  obtain ⟨a,b,c⟩:=hL.free g hgm;exact ⟨a,b,Nat.lt_of_lt_of_le c hg.size⟩,hL.apart⟩
 refine ⟨hI',hle,hL',λhlt=>⟨List.nodup_cons.2 ⟨λhm=>Nat.lt_irrefl _ (hL.free _ hm).2.2,hL.nodup⟩,λg hgm=>?_,λg hgm j e v hj hl hv hb=>?_⟩⟩
 ·rcases List.mem_cons.1 hgm with rfl | hgm
  ·exact ⟨λhs=>Nat.lt_irrefl _ (hI.Slt _ hs),.inl hI.keeps.size,hlt⟩
  ·exact hL'.free g hgm
 ·rcases List.mem_cons.1 hgm with rfl | hgm
  ·exact Nat.lt_irrefl _ (hI.free j e v _ hj hl hv hb).2.2
  ·exact hL'.apart g hgm j e v hj hl hv hb
def Zhk (et:TypeId) (e:Dp) (d:List e.ty.den) (H:List Entry) (K:SV->List Entry->Prop):Prop :=
 Zoj H 0 λn=>∀ fp:List Nat,Zmi H [.darr et e d fp] λH'=>K (.own n) H'
theorem ZiE {B:Base} {E:Env} {H:List Entry} (hI:Inv B E H) {et:TypeId} {e:Dp} {d:List e.ty.den} {v:Value} {f gs:List Nat} (hr:Zfj E.S E.w (.ol et e) d [v] f) (hL:Loose B E H (f++gs)) {K:SV->List Entry->Prop} (hk:Zhk et e d H K) :
  ∃ E' H' s,E'.w=E.w/\Inv B E' H'/\E.le E'/\den E' s v/\K s H':=by
 unfold Zhk at hk;rw[Zax,Nat.zero_add] at hk;have hk:=hk f;rw[Ju] at hk;obtain ⟨v',xs,fps,ev,ho,hr,ef⟩:=hr;simp at ev;subst ev;have hid:(E.ids++[v])[H.length]?=some v:=by rw[<-hI.len];simp
 obtain ⟨hI',hL'⟩:=hL.push hI v (.darr et e d f) (λ_ g hg=>hg) ⟨v,xs,fps,hid,ho,hr,ef,(List.nodup_append.1 hL.nodup).1⟩;exact ⟨⟨E.S,E.w,E.ids++[v]⟩,_,_,rfl,hI',ZgZ E v,ZkL hid ho,hk⟩
def ZuU:List Entry->Nat->Option (TypeId×Dp)
 | [],_=>none
 | e::_,0=>match e with
  | .darr et e _ _=>some (et,e)
  | .hole et e _ _ _ _=>some (et,e)
  | _=>none
 | _::r,n+1=>ZuU r n
def ZrH (s:SV) (H:List Entry):Option (TypeId×Dp) :=
 match s with
 | .own id=>ZuU H id
 | _=>none
def Zxx (et:TypeId) (e:Dp) (ti:TI) (s x:SV) (H:List Entry) (K:SV->List Entry->Prop):Prop :=
 if et=ti.elem/\e.ty.size=ti.esize/\0<ti.esize/\0<ti.ebytes then Zk9 ti.ezero λz=>if z.length=ti.esize then
  closeAll (.ol et e) [s] H λd H1=>closeAll (.ol et e) [x] H1 λd' H2=>(d.length+d'.length)*ti.ebytes<=140737488355328/\Zhk et e (d++d') H2 K
 else False else False
def Zon (ti:TI) (s x:SV) (H:List Entry) (K:SV->List Entry->Prop):Prop :=
 match ti.kind with
 | .sl=>match ZrH s H with
  | some (et,e)=>Zxx et e ti s x H K
  | none=>match ZrH x H with
   | some (et,e)=>Zxx et e ti s x H K
   | none=>Zoo ti s x H K
 | _=>False
theorem ZkO {S:Nat->Prop} {w:World}:∀ (e:Dp) (d:e.ty.den) (vs:List Value) (f:List Nat),Zfj S w e d vs f->∀ u∈vs,u.oneCell'=true
 | .flat t,d,vs,f,h,u,hu=>ZmR t d vs h.2 u hu
 | .ol et e,d,vs,f,⟨v,xs,fps,ev,ho,_⟩,u,hu=>by
  subst ev;simp at hu;subst hu;rcases ho.2 with ⟨rfl,_⟩ | ⟨g,cap,cur,o,rfl,_⟩<;>rfl
 | .mp _ _,d,vs,f,⟨b,es,clk,ev,_⟩,u,hu=>by
  subst ev;simp at hu;subst hu;rfl
 | .pair a b,d,vs,f,⟨v1,v2,f1,f2,ev,_,h1,h2⟩,u,hu=>by
  subst ev;rcases List.mem_append.1 hu with hu | hu
  ·exact ZkO a _ _ _ h1 u hu
  ·exact ZkO b _ _ _ h2 u hu
theorem ZlW {S:Nat->Prop} {w:World} {e:Dp}:∀ (l:List e.ty.den) (xs:List Value) (f:List Nat),JV (Zfj S w e) l xs f->∀ u∈xs,u.oneCell'=true
 | [],xs,f,h,u,hu=>by rw[h.1] at hu;simp at hu
 | d::l,xs,f,⟨v1,v2,f1,f2,ev,_,h1,h2⟩,u,hu=>by
  subst ev;rcases List.mem_append.1 hu with hu | hu
  ·exact ZkO e _ _ _ h1 u hu
  ·exact ZlW l v2 f2 h2 u hu
theorem Zrm {B:Base} {E:Env} {H:List Entry} (hI:Inv B E H) {T ty:TypeId} {ti:TI} (h:ZbB P T ti) (hdd:ti.kind=.sl) {et:TypeId} {e:Dp} {s x:SV} {vs vx:Value} (hs:den E s vs) (hx:den E x vx)
  {K:SV->List Entry->Prop} (hk:Zxx et e ti s x H K):∃ u E' H' r,(Builtin.append_ #[T,T] ty #[vs,vx]).run P E.w=.ok u E'.w/\Inv B E' H'/\E.le E'/\den E' r u/\K r H'/\E.w.grownBy E'.w vs.ownBlock:=by
 unfold Zxx at hk;split at hk
 ·rename_i hc0
  obtain ⟨het,hts,hpos,hbpos⟩:=hc0;obtain ⟨z,hz,hk⟩:=Zd9 E _ _ hk;split at hk
  ·rename_i hz1
   obtain ⟨hu,_,ie,hie,hsz,hby,hzero⟩:=h.slice hdd;have hzs:ti.ezero.cells.size=ti.esize:=by rw[<-Array.length_toList,<-Yl _ _ hz,hz1]
   obtain ⟨E1,H1,d,f1,hf1,hI1,hr1,hk,hL1,_,_⟩:=Qi hI (show ZT E [s] [vs] from ⟨hs,trivial⟩) (gs:=[]) ⟨List.nodup_nil,λg hg=>by simp at hg,λg hg=>by simp at hg⟩ hk;obtain ⟨E2,H2,d',f2,hf2,hI2,hr2,hk,hL2,_,_⟩:=Qi hI1 (show ZT E1 [x] [vx] from ⟨ZdX hf1.le _ _ hx,trivial⟩) hL1 hk;obtain ⟨hbytes,hk⟩:=hk;rw[List.append_nil] at hL2;have hww:E2.w=E.w:=by rw[hf2.w,hf1.w]
   have hr1':=Ye hf2.le.S hf2.le.w (.ol et e) d [vs] f1 (λg _=>by rw[hf2.w]) hr1;obtain ⟨v1,xs1,fps1,ev1,ho1,hre1,ef1⟩:=hr1';simp at ev1;subst ev1;obtain ⟨v2,xs2,fps2,ev2,ho2,hre2,ef2⟩:=hr2;simp at ev2;subst ev2;rw[<-hww];have hLp:Loose B E2 H2 (f1++f2):=hL2.perm List.perm_append_comm;rcases ho2.2 with ⟨hvx,hn2⟩ | ⟨g2,cap2,cur2,o2,hvx,hg20,hh2,hcap2,hml2,hcs2,htake2⟩
   ·have hd':d'=[]:=List.eq_nil_of_length_eq_zero hn2
    subst hd';rw[List.append_nil] at hk;subst hvx;have hr:=Zc8 (P:=P) (w:=E2.w) 0 T ty et ie e.ty.size (by rw[het];exact hu) (by rw[het];exact hie) vs d.length xs1 ho1;obtain ⟨E3,H3,r,hw3,hI3,hle3,hd3,hk⟩:=ZiE hI2 (⟨vs,xs1,fps1,rfl,ho1,hre1,ef1⟩:Zfj E2.S E2.w (.ol et e) d [vs] f1) hLp hk;refine ⟨vs,E3,H3,r,?_,hI3,(hf1.le.trans hf2.le).trans hle3,hd3,hk,by rw[hw3];exact ⟨rfl,rfl,rfl,Nat.le_refl _,λ_ _ _=>rfl⟩⟩;rw[hw3];exact hr
   ·subst hvx
    have hnews:=ho2.Zfp rfl;have h63:d.length+d'.length<=maxLen:=by
     have:=Nat.le_mul_of_pos_right (d.length+d'.length) hbpos;unfold maxLen;omega
    have hones:=ZlW _ _ _ hre2;obtain ⟨v',w',hr,hown,hgr,_⟩:=Zh5 (P:=P) E2.w 0 T ty et ie ti.ezero e.ty.size ti.ebytes (by rw[het];exact hu) (by rw[het];exact hie) hzero (by rw[hsz,hts]) hby (by rw[hzs,hts]) (by omega) vs d.length xs1 ho1
     ⟨g2,o2,none⟩ d'.length cap2 xs2 ho2.1 hnews hones h63 hbytes (Nat.zero_le _)
    have hblk:=Zg5 (P:=P) E2.w 0 T ty et ie ti.ezero e.ty.size ti.ebytes (by rw[het];exact hu) (by rw[het];exact hie) hzero (by rw[hsz,hts]) hby (by rw[hzs,hts]) (by omega) vs d.length xs1 ho1
     ⟨g2,o2,none⟩ d'.length cap2 xs2 ho2.1 hnews hones h63 hbytes hr
    have hob:=Zaz ho1;obtain ⟨hI3,hle3,hL3,hL3'⟩:=hLp.write hI2 (row:=vs.ownBlock) (λg hg=>by
     rw[<-hob] at hg;rw[ef1];simp[hg]) hgr
    have hnd:=hLp.nodup;have keep:∀ g,g∈fps1++fps2->w'.heap[g]?=E2.w.heap[g]?:=by
     intro g hg;have hgm:g∈f1++f2:=by
      rw[ef1,ef2];simp only[List.mem_append] at hg ⊢;rcases hg with hg | hg
      ·exact .inl (.inr hg)
      ·exact .inr (.inr hg)
     refine hgr.block g (hLp.free g hgm).2.2 (λeq=>?_);rw[<-hob] at eq;rw[ef1,ef2,<-eq] at hnd;simp only[Option.toList,List.cons_append,List.nil_append,List.nodup_cons,List.mem_append] at hnd;refine hnd.1 ?_;rcases List.mem_append.1 hg with hg | hg
     ·exact .inl hg
     ·exact .inr (.inr hg)
    have hre:JV (Zfj E2.S w' e) (d++d') (xs1++xs2) (fps1++fps2) :=
     ZeN _ _ _ _ _ _ (Xk _ _ _ (λd vs f hs=>Ye (λ_ h=>h) hle3.w e d vs f (λg hg=>keep g (by simp[hs g hg]))) hre1)
      (Xk _ _ _ (λd vs f hs=>Ye (λ_ h=>h) hle3.w e d vs f (λg hg=>keep g (by simp[hs g hg]))) hre2)
    have hrD:Zfj E2.S w' (.ol et e) (d++d') [v'] ((Yh v').toList++(fps1++fps2)):=⟨v',_,_,rfl,by rw[List.length_append];exact hown,hre,rfl⟩;have hlt:∀ g,Yh v'=some g->g<w'.heap.size:=by
     intro g hg;rw[Zaz hown] at hg;exact (hown.lt g hg).2
    have sub:∀ {l:List Nat},List.Sublist ((Yh v').toList++(fps1++fps2)) l->Loose B ⟨E2.S,w',E2.ids⟩ H2 l->Loose B ⟨E2.S,w',E2.ids⟩ H2 ((Yh v').toList++(fps1++fps2)++[]):=by
     intro l hsub hl;rw[List.append_nil];exact ⟨hl.nodup.sublist hsub,λg hg=>hl.free g (hsub.subset hg),λg hg=>hl.apart g (hsub.subset hg)⟩
    have hbase:List.Sublist (fps1++fps2) (f1++f2):=by
     rw[ef1,ef2];exact List.Sublist.append (List.sublist_append_right _ _) (List.sublist_append_right _ _)
    have hLn:Loose B ⟨E2.S,w',E2.ids⟩ H2 ((Yh v').toList++(fps1++fps2)++[]):=by
     rcases hblk with hb | hb | hb
     ·subst hb
      exact sub (by simpa[Yh] using hbase) hL3
     ·rw[hb,<-hob]
      have:=sub (l:=f1++f2) (by
       rw[hb,<-hob,ef1,ef2,List.append_assoc];exact List.Sublist.append (List.Sublist.refl _) (List.Sublist.append (List.Sublist.refl _) (List.sublist_append_right _ _))) hL3
      rwa [hb,<-hob] at this
     ·exact sub (by rw[hb];exact List.Sublist.cons_cons _ hbase) (hL3' (hlt _ hb))
    obtain ⟨E3,H3,r,hw3,hI4,hle4,hd3,hk⟩:=ZiE hI3 hrD hLn hk;refine ⟨v',E3,H3,r,?_,hI4,((hf1.le.trans hf2.le).trans hle3).trans hle4,hd3,hk,by rw[hw3];exact hgr⟩;rw[hw3];exact hr
  ·exact hk.elim
 ·exact hk.elim
theorem Zqm {B:Base} {E:Env} {H:List Entry} (hI:Inv B E H) {T ty:TypeId} {ti:TI} (h:ZbB P T ti) {s x:SV} {vs vx:Value} (hs:den E s vs) (hx:den E x vx)
  {K:SV->List Entry->Prop} (hk:Zon ti s x H K):∃ u E' H' r,(Builtin.append_ #[T,T] ty #[vs,vx]).run P E.w=.ok u E'.w/\Inv B E' H'/\E.le E'/\den E' r u/\K r H'/\E.w.grownBy E'.w vs.ownBlock:=by
 unfold Zon at hk;split at hk
 ·rename_i hdd
  split at hk
  ·exact Zrm hI h hdd hs hx hk
  ·split at hk
   ·exact Zrm hI h hdd hs hx hk
   ·exact Zqn hI h hs hx hk
 ·exact hk.elim
end
end Go.Sx
