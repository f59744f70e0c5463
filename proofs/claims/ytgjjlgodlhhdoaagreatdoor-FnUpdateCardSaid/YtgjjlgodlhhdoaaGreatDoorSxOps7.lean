/-
  append; lengths; other small operations.
-/
import Derived.Test.YtgjjlgodlhhdoaaGreatDoorSxOps6
namespace Go.Sx
set_option linter.unusedVariables false
set_option linter.unusedSimpArgs false
section
variable {P:Program}
theorem Zg5 (w:World) (base:Nat) (t ty e:TypeId) (i:TypeInfo) (z:Value) (size bytes:Nat) (ht:P.underlying t=some (.slice e)) (hi:P.info? e=some i) (hz:i.zero=some z)
  (hsize:i.size=size) (hby:i.bytes=bytes) (_hzs:z.cells.size=size) (_hsz:0<size)
  (v:Value) (n:Nat) (xs:List Value) (hown:w.Q8 base e size v n xs)
  (a:Addr) (m c:Nat) (news:List Value) (hl:news.length=m*size) (hnews:∀ j u,news[j]?=some u->w.cell? (a.add j)=some u) (h1:∀ u∈news,u.oneCell'=true)
  (h63:n+m<=maxLen) (hbytes:(n+m)*bytes<=140737488355328) {v':Value} {w':World} (hr':(Builtin.append_ #[t,t] ty #[v,.slice (some a) m c]).run P w=.ok v' w') :
  v'=.slice none 0 0\/Yh v'=v.ownBlock\/Yh v'=some w.heap.size:=by
 subst hsize;subst hby
 have hsmall:n+m<=9223372036854775807:=by simp only[maxLen] at h63;omega
 rcases hown.2 with ⟨rfl,rfl⟩ | ⟨g,cap,cur,o,rfl,hbg,hg,hnc,hcm,hcs,htake⟩
 ·by_cases hm:m=0
  ·subst hm
   have hn:news=[]:=List.eq_nil_of_length_eq_zero (by simpa using hl);subst hn;have hr:(Builtin.append_ #[t,t] ty #[.slice none 0 0,.slice (some a) 0 c]).run P w=.ok (.slice none 0 0) w:=by
    simp[Builtin.append_,run_underlying ht,sizeOf,typeInfo,hi,Builtin.lenOf,Builtin.firstCells,loadCells,loadCellsFrom]
   rw[hr] at hr';injection hr' with e1 _
   exact .inl e1.symm
  ·have hr:=run_append_nil (P:=P) w t ty e i z ht hi hz a m c news hl hnews (by omega) (by omega) (by have hb:=hbytes;simp only[Nat.zero_add] at hb;omega)
   rw[hr] at hr';injection hr' with e1 _
   subst e1;exact .inr (.inr rfl)
 ·by_cases hroom:n+m<=cap
  ·have hmul:n*i.size+m*i.size<=cap*i.size:=by rw[<-Nat.add_mul];exact Nat.mul_le_mul_right _ hroom
   have hfit:o+n*i.size+news.length<=cur.size:=by rw[hl];omega
   have hr:=ZeO (P:=P) w t ty e i ht hi g o n cap cur hg a m c news hl hnews h1 hroom hfit;rw[hr] at hr';injection hr' with e1 _
   subst e1;exact .inr (.inl rfl)
  ·have holds:∀ j u,xs[j]?=some u->w.cell? ((⟨g,o,none⟩:Addr).add j)=some u:=hown.Zfp rfl
   have hr:=run_append_grow (P:=P) w t ty e i z ht hi hz ⟨g,o,none⟩ n cap xs hown.1 holds a m c news hl hnews (by omega) (by omega) (growslice_fits (by omega) hbytes);rw[hr] at hr';injection hr' with e1 _
   subst e1;exact .inr (.inr rfl)
def Zxe (x:SV) (H:List Entry) (K:(t:Ty)->List t.den->Prop) (Knil:Prop):Prop :=
 match x with
 | .sl t d=>K t d
 | .nsl=>Knil
 | .own id=>ZeE H id λe=>match e with
  | .arr _ t d=>K t d
  | .frz t d=>K t d
  | _=>False
 | _=>False
def Zxu (E:Env) (t:Ty) (d:List t.den) (v:Value):Prop :=
 (v=.slice none 0 0/\d=[])\/∃ ad c xs,v=.slice (some ad) d.length c/\xs.length=d.length*t.size/\(∀ j u,xs[j]?=some u->E.w.cell? (ad.add j)=some u)/\XZ (rep E.S E.w t) d xs
theorem ZkD {E:Env} {t:Ty} {d:List t.den} {v:Value} (h:rep E.S E.w (.sl t) d [v]):Zxu E t d v:=by
 obtain ⟨a,cap,e1,hle,hn,h3⟩:=h;simp at e1;cases a with
 | none =>
  have:=hn rfl;subst this;have hd:d=[]:=List.eq_nil_of_length_eq_zero (by omega);subst hd;exact .inl ⟨e1,rfl⟩
 | some ad =>
  rcases h3 with h3 | ⟨p,xs,e2,hp,hS,hc,h3⟩
  ·subst h3
   exact .inr ⟨ad,cap,[],e1,by simp,λj u hu=>by simp at hu,rfl⟩
  ·simp at e2;subst e2
   exact .inr ⟨ad,cap,xs,e1,Zh3 (λd vs=>Xj t d vs) _ _ h3,hc,h3⟩
theorem ZoJ {E:Env} {et:TypeId} {t:Ty} {d:List t.den} {v:Value} {xs:List Value} (h2:E.w.Q8 0 et t.size v d.length xs) (h3:XZ (rep E.S E.w t) d xs):Zxu E t d v:=by
 rcases h2.2 with ⟨rfl,hn⟩ | ⟨g,cap,cur,o,rfl,_,hh,hc,_⟩
 ·exact .inl ⟨rfl,List.eq_nil_of_length_eq_zero hn⟩
 ·exact .inr ⟨_,cap,xs,rfl,h2.1,h2.Zfp rfl,h3⟩
theorem Zo1 {B:Base} {E:Env} {H:List Entry} (hI:Inv B E H) {x:SV} {v:Value} (hx:den E x v) {K:(t:Ty)->List t.den->Prop} {Kn:Prop} (hk:Zxe x H K Kn) :
  (∃ t d,Zxu E t d v/\K t d)\/(v=.slice none 0 0/\Kn):=by
 unfold Zxe at hk;split at hk
 ·rename_i t d;simp only[den] at hx;exact .inl ⟨t,d,ZkD hx,hk⟩
 ·simp only[den] at hx;exact .inr ⟨hx,hk⟩
 ·rename_i id
  obtain ⟨e,he,hk⟩:=Yy H hk;simp only[den] at hx;split at hk
  ·rename_i et t d
   obtain ⟨v',xs,e1,h2,h3⟩:=hI.ent id _ he;have:=hx.1.symm.trans e1;simp at this;subst this;exact .inl ⟨t,d,ZoJ h2 h3,hk⟩
  ·rename_i t d
   obtain ⟨v',e1,h2⟩:=hI.ent id _ he;have:=hx.1.symm.trans e1;simp at this;subst this;exact .inl ⟨t,d,ZkD h2,hk⟩
  ·exact hk.elim
 ·exact hk.elim
def Zoo (ti:TI) (s x:SV) (H:List Entry) (K:SV->List Entry->Prop):Prop :=
 match ti.kind with
 | .sl=>Zk9 ti.ezero λz=>if z.length=ti.esize/\0<ti.esize/\0<ti.ebytes then
   match s with
   | .own id=>ZeE H id λe=>match e with
    | .arr et t d=>if et=ti.elem/\t.size=ti.esize then
      Zxe x H (λt' d'=>if h:t'=t then (d.length+d'.length)*ti.ebytes<=140737488355328/\Zfk H id .gone λH'=>Zqq h d' λd''=>ZeM et t (d++d'') H' K else False)
       (Zfk H id .gone λH'=>ZeM et t d H' K)
     else False
    | _=>False
   | .nsl=>if ti.ety.size=ti.esize then
     Zxe x H (λt' d'=>if h:t'=ti.ety then d'.length*ti.ebytes<=140737488355328/\Zqq h d' λd''=>ZeM ti.elem ti.ety d'' H K else False) (ZeM ti.elem ti.ety [] H K)
    else False
   | _=>False
  else False
 | _=>False
theorem ZoT {B:Base} {E:Env} {H:List Entry} (hI:Inv B E H) {et:TypeId} {t:Ty} {d:List t.den} {K:SV->List Entry->Prop} (hk:ZeM et t d H K) {v:Value} {xs:List Value}
  (h2:E.w.Q8 0 et t.size v d.length xs) (h3:XZ (rep E.S E.w t) d xs)
  (hf:∀ g,Yh v=some g->¬E.S g/\(B.w.heap.size<=g\/B.io g)/\g<E.w.heap.size/\
   ∀ (j:Nat) (ej:Entry) (vj:Value),H[j]?=some ej->ej.live=true->E.ids[j]?=some vj->¬ZeY ej vj g) :
  ∃ E' H' s,E'.w=E.w/\Inv B E' H'/\E.le E'/\den E' s v/\K s H':=by
 unfold ZeM at hk;rw[Zax,Ju,Nat.zero_add] at hk;have hid:(E.ids++[v])[H.length]?=some v:=by rw[<-hI.len];simp
 refine ⟨⟨E.S,E.w,E.ids++[v]⟩,_,_,rfl,hI.push v (.arr et t d) ⟨v,xs,hid,h2,h3⟩ (λ_=>hf),ZgZ E v,?_,hk⟩;simp only[den];refine ⟨hid,?_⟩;rcases h2.2 with ⟨rfl,_⟩ | ⟨g,cap,cur,o,rfl,_⟩
 ·exact ⟨_,_,_,rfl⟩
 ·exact ⟨_,_,_,rfl⟩
theorem Zqn {B:Base} {E:Env} {H:List Entry} (hI:Inv B E H) {T ty:TypeId} {ti:TI} (h:ZbB P T ti) {s x:SV} {vs vx:Value} (hs:den E s vs) (hx:den E x vx)
  {K:SV->List Entry->Prop} (hk:Zoo ti s x H K) :
  ∃ u E' H' r,(Builtin.append_ #[T,T] ty #[vs,vx]).run P E.w=.ok u E'.w/\Inv B E' H'/\E.le E'/\den E' r u/\K r H'/\E.w.grownBy E'.w vs.ownBlock:=by
 unfold Zoo at hk;split at hk
 ·rename_i hdd
  obtain ⟨z,hz,hk⟩:=Zd9 E _ _ hk;split at hk
  ·rename_i hc
   obtain ⟨hz1,hpos,hbpos⟩:=hc;obtain ⟨hu,_,ie,hie,hsz,hby,hzero⟩:=h.slice hdd;have hzs:ti.ezero.cells.size=ti.esize:=by rw[<-Array.length_toList,<-Yl _ _ hz,hz1]
   have core:∀ (t:Ty) (d:List t.den) (xs:List Value) (H1:List Entry),t.size=ti.esize->E.w.Q8 0 ti.elem t.size vs d.length xs->XZ (rep E.S E.w t) d xs->
     (∀ w',E.w.grownBy w' vs.ownBlock->Inv B ⟨E.S,w',E.ids⟩ H1/\E.le ⟨E.S,w',E.ids⟩)->
     (∀ g,vs.ownBlock=some g->¬E.S g/\(B.w.heap.size<=g\/B.io g)/\g<E.w.heap.size/\
      ∀ (j:Nat) (ej:Entry) (vj:Value),H1[j]?=some ej->ej.live=true->E.ids[j]?=some vj->¬ZeY ej vj g)->
     (∀ (j:Nat) (ej:Entry) (vj:Value),H1[j]?=some ej->ej.live=true->E.ids[j]?=some vj->¬ZeY ej vj E.w.heap.size)->
     ∀ (d':List t.den),Zxu E t d' vx->(d.length+d'.length)*ti.ebytes<=140737488355328->ZeM ti.elem t (d++d') H1 K->
     ∃ u E' H' r,(Builtin.append_ #[T,T] ty #[vs,vx]).run P E.w=.ok u E'.w/\Inv B E' H'/\E.le E'/\den E' r u/\K r H'/\E.w.grownBy E'.w vs.ownBlock:=by
    intro t d xs H1 hts hown hreps hgrow hfree hnew d' hl hbytes hk;rcases hl with ⟨rfl,rfl⟩ | ⟨ad,c,news,rfl,hnl,hnc,hnr⟩
    ·have hr:=Zc8 (P:=P) (w:=E.w) 0 T ty ti.elem ie t.size hu hie vs d.length xs hown
     obtain ⟨hI1,hle1⟩:=hgrow E.w ⟨rfl,rfl,rfl,Nat.le_refl _,λ_ _ _=>rfl⟩;rw[List.append_nil] at hk;obtain ⟨E',H',r,hw,h1,h2,h3,h4⟩:=ZoT hI1 hk hown hreps (λg hg=>hfree g (by rw[<-Zaz hown];exact hg));exact ⟨vs,E',H',r,by rw[hw];exact hr,h1,hle1.trans h2,h3,h4,by rw[hw];exact ⟨rfl,rfl,rfl,Nat.le_refl _,λ_ _ _=>rfl⟩⟩
    ·have h63:d.length+d'.length<=maxLen:=by
      have:=Nat.le_mul_of_pos_right (d.length+d'.length) hbpos;unfold maxLen;omega
     obtain ⟨v',w',hr,hown2,hgr,_⟩:=Zh5 (P:=P) E.w 0 T ty ti.elem ie ti.ezero t.size ti.ebytes hu hie hzero (by rw[hsz,hts]) hby (by rw[hzs,hts]) (by omega) vs d.length xs hown
      ad d'.length c news hnl hnc (ZiJ d' news hnr) h63 hbytes (Nat.zero_le _)
     have hblk:=Zg5 (P:=P) E.w 0 T ty ti.elem ie ti.ezero t.size ti.ebytes hu hie hzero (by rw[hsz,hts]) hby (by rw[hzs,hts]) (by omega) vs d.length xs hown
      ad d'.length c news hnl hnc (ZiJ d' news hnr) h63 hbytes hr
     obtain ⟨hI1,hle1⟩:=hgrow w' hgr;have hreps':=QD (R':=rep E.S w' t) (λd vs=>Z7 hle1.S hle1.w t d vs) _ _ hreps;have hnr':=QD (R':=rep E.S w' t) (λd vs=>Z7 hle1.S hle1.w t d vs) _ _ hnr;have hlt:∀ g,Yh v'=some g->g<w'.heap.size:=by
      intro g hg;rw[Zaz hown2] at hg;exact (hown2.lt g hg).2
     obtain ⟨E',H',r,hw,h1,h2,h3,h4⟩:=ZoT hI1 hk (v:=v') (xs:=xs++news) (by rw[List.length_append];exact hown2) (ZfH _ _ _ _ hreps' hnr') (λg hg=>by
      rcases hblk with hb | hb | hb
      ·subst hb;simp[Yh] at hg
      ·rw[hb] at hg
       obtain ⟨a1,a2,_,a4⟩:=hfree g hg;exact ⟨a1,a2,hlt g (by rw[hb];exact hg),a4⟩
      ·rw[hb] at hg;simp at hg;subst hg
       exact ⟨λhS=>Nat.lt_irrefl _ (hI.Slt _ hS),.inl hI.keeps.size,hlt _ hb,hnew⟩)
     exact ⟨v',E',H',r,by rw[hw];exact hr,h1,hle1.trans h2,h3,h4,by rw[hw];exact hgr⟩
   split at hk
   ·rename_i id _hk0
    obtain ⟨en,he,hk⟩:=Yy H hk;split at hk
    ·rename_i et t d
     split at hk
     ·rename_i hcc
      obtain ⟨het,hts⟩:=hcc;subst het;simp only[den] at hs;obtain ⟨v',xs,e1,h2,h3⟩:=hI.ent id _ he;have:=hs.1.symm.trans e1;simp at this;subst this;have hob:=Zaz h2;have hnewH:∀ (j:Nat) (ej:Entry) (vj:Value),(H.set id .gone)[j]?=some ej->ej.live=true->E.ids[j]?=some vj->j≠id/\H[j]?=some ej:=by
       intro j ej vj hj hl hv;by_cases hji:id=j
       ·subst hji
        have hlt:id<H.length:=(List.getElem?_eq_some_iff.1 he).1;rw[List.getElem?_set_self hlt] at hj;simp at hj;subst hj;simp[Entry.live] at hl
       ·rw[List.getElem?_set_ne hji] at hj;exact ⟨λe=>hji e.symm,hj⟩
      have main:=core t d xs (H.set id .gone) hts h2 h3
       (λw' hg=>⟨hI.write he rfl e1 (by rw[hob];exact hg) .gone trivial,Zce hg hI.Slt (λg eg=>(hI.free id _ vs g he rfl e1 ((show Yh vs=some g by rw[hob];exact eg))).1)⟩)
       (λg eg=>by
        obtain ⟨a1,a2,a3⟩:=hI.free id _ vs g he rfl e1 ((show Yh vs=some g by rw[hob];exact eg));refine ⟨a1,a2,a3,λj ej vj hj hl hv hb=>?_⟩;obtain ⟨hne,hj'⟩:=hnewH j ej vj hj hl hv;exact hne (hI.sep j id ej _ vj vs g hj' he hl rfl hv e1 hb ((show Yh vs=some g by rw[hob];exact eg))))
       (λj ej vj hj hl hv hb=>by
        obtain ⟨hne,hj'⟩:=hnewH j ej vj hj hl hv;exact Nat.lt_irrefl _ (hI.free j ej vj _ hj' hl hv hb).2.2)
      rcases Zo1 hI hx hk with ⟨t',d',hl,hk⟩ | ⟨rfl,hk⟩
      ·split at hk
       ·rename_i ht';subst ht'
        obtain ⟨hb,hk⟩:=hk;rw[YU] at hk;exact main d' hl hb hk
       ·exact hk.elim
      ·rw[YU] at hk
       have hle0:(d.length+([]:List t.den).length)*ti.ebytes<=140737488355328\/True:=.inr trivial;have hr:=Zc8 (P:=P) (w:=E.w) 0 T ty ti.elem ie t.size hu hie vs d.length xs h2;have hI1:=hI.drop id;obtain ⟨E',H',r,hw,h1,h2',h3',h4⟩:=ZoT hI1 hk h2 h3 (λg eg=>by
        obtain ⟨a1,a2,a3⟩:=hI.free id _ vs g he rfl e1 eg;refine ⟨a1,a2,a3,λj ej vj hj hl hv hb=>?_⟩;obtain ⟨hne,hj'⟩:=hnewH j ej vj hj hl hv;exact hne (hI.sep j id ej _ vj vs g hj' he hl rfl hv e1 hb eg))
       exact ⟨vs,E',H',r,by rw[hw];exact hr,h1,h2',h3',h4,by rw[hw];exact ⟨rfl,rfl,rfl,Nat.le_refl _,λ_ _ _=>rfl⟩⟩
     ·exact hk.elim
    ·exact hk.elim
   ·simp only[den] at hs;subst hs
    split at hk
    ·rename_i hts
     have main:=core ti.ety [] [] H hts (World.ZgI _ _ _ _) rfl
      (λw' hg=>⟨hI.grow hg,Zce hg hI.Slt (λg eg=>by simp[Value.ownBlock] at eg)⟩)
      (λg eg=>by simp[Value.ownBlock] at eg)
      (λj ej vj hj hl hv hb=>Nat.lt_irrefl _ (hI.free j ej vj _ hj hl hv hb).2.2)
     rcases Zo1 hI hx hk with ⟨t',d',hl,hk⟩ | ⟨rfl,hk⟩
     ·split at hk
      ·rename_i ht';subst ht'
       exact main d' hl (by simpa using hk.1) hk.2
      ·exact hk.elim
     ·exact main [] (.inl ⟨rfl,rfl⟩) (by simp) hk
    ·exact hk.elim
   ·exact hk.elim
  ·exact hk.elim
 ·exact hk.elim
end
end Go.Sx
