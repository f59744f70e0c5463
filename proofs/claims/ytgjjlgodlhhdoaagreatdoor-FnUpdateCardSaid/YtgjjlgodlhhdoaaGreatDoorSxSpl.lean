/-
  Lists whose first elements own what they hold, while the others are plain data: element by element the data are replaced by lists of one's own.
-/
import Derived.Test.YtgjjlgodlhhdoaaGreatDoorSxDeep3
namespace Go.Sx
set_option linter.unusedVariables false
set_option linter.unusedSimpArgs false
section
variable {P:Program}
theorem Zns (w:World):w.grownBy w none:=⟨rfl,rfl,rfl,Nat.le_refl _,λ_ _ _=>rfl⟩
theorem Zq3 {B:Base} {E:Env} {H:List Entry} (hI:Inv B E H) {id:Nat} {et:TypeId} {e:Dp} {d:List e.ty.den} {n:Int} {fp:List Nat} (he:H[id]?=some (.spl et e d n fp)) {x:e.ty.den} (hlt:n<(d.length:Int)) (hx:d[n.toNat]?=some x) :
  Inv B E (H.set id (.hsp et e d n (ZdP e.ty x) fp)):=by
 obtain ⟨v,hv,⟨xs,x1,x2,f1,ho,h0,h1,ex,el,hr1,hr2,ef⟩,hnd⟩:=hI.ent id _ he;have hl:=(List.getElem?_eq_some_iff.1 hx).1;have hd:d.drop n.toNat=x::d.drop (n.toNat+1):=by
  rw[List.drop_eq_getElem_cons hl];congr 1;exact (List.getElem?_eq_some_iff.1 hx).2
 rw[hd] at hr2;obtain ⟨vx,x3,e3,hrx,hr3⟩:=hr2;exact hI.Zqi he rfl hv (row:=none) (λg e=>by cases e) (Zns E.w) (.hsp et e d n (ZdP e.ty x) fp) (λ_ g hg=>hg)
  ⟨v,xs,x1,vx,x3,f1,hv,ho,h0,hlt,by rw[ex,e3,List.append_assoc],el,Xj e.ty _ _ hrx,hr1,hr3,Y0 e.ty x vx hrx,ef,hnd⟩
def ZvP (ti:TI) (s:SV) (H:List Entry) (K:SV->List Entry->Prop):Prop :=
 match s with
 | .oep id sz i off=>ZeE H id λen=>match en with
  | .spl _ e d n _=>if e.ty.size=sz then n<=i/\ZgM d i λx=>Qq e.ty x λcells=>Zgj cells off λcs=>Qw ti cs λr=>K r H else False
  | _=>ZtS ti s H K
 | _=>ZtS ti s H K
theorem ZtT {B:Base} {E:Env} {H:List Entry} (hI:Inv B E H) {T:TypeId} {ti:TI} (h:ZbB P T ti) {s:SV} {v:Value} (hs:den E s v) {K:SV->List Entry->Prop} (hk:ZvP ti s H K) :
  ∃ u r E' H',E'.w=E.w/\Ztm P E.w (Instr.loadAt T v) u/\Inv B E' H'/\E.le E'/\den E' r u/\K r H':=by
 unfold ZvP at hk;split at hk
 ·rename_i id sz i off
  obtain ⟨en,he,hk⟩:=Yy H hk;split at hk
  ·rename_i et e d n fp
   split at hk
   ·rename_i hsz
    obtain ⟨hni,hi0,hi1,hk⟩:=hk;have hlt:i.toNat<d.length:=by omega
    have hx:d[i.toNat]?=some d[i.toNat]:=List.getElem?_eq_getElem hlt;have hk:=hk _ hx;simp only[Xr,ZaN] at hk;obtain ⟨v',hv',⟨xs,x1,x2,f1,ho,h0,h1,ex,el,hr1,hr2,ef⟩,hnd⟩:=hI.ent id _ he;simp only[den] at hs;obtain ⟨b,bo,m,c,g1,rfl⟩:=hs;have:=g1.symm.trans hv';simp at this;subst this;have hx2:(d.drop n.toNat)[i.toNat-n.toNat]?=some d[i.toNat]:=by
     rw[List.getElem?_drop,show n.toNat+(i.toNat-n.toNat)=i.toNat by omega];exact hx
    obtain ⟨vs,hrv,hat⟩:=Zfd (λd vs=>Xj e.ty d vs) _ _ hr2 _ _ hx2;have hcells:=ho.Zfp rfl;obtain ⟨u,r,k1,k2,k3⟩:=ZfB h E.w ⟨b,bo+(i.toNat*sz+off),none⟩ hk (vs.drop off) (Vv _ _ (Y0 e.ty _ vs hrv) off) (λj u hu=>by
     have h3:=hat (off+j) u (by simpa using hu);have hmul:i.toNat*e.ty.size=n.toNat*e.ty.size+(i.toNat-n.toNat)*e.ty.size:=by rw[<-Nat.add_mul,show n.toNat+(i.toNat-n.toNat)=i.toNat by omega]
     have h4:xs[i.toNat*e.ty.size+(off+j)]?=some u:=by
      rw[ex,List.getElem?_append_right (by omega),el,show i.toNat*e.ty.size+(off+j)-n.toNat*e.ty.size=(i.toNat-n.toNat)*e.ty.size+(off+j) by omega];exact h3
     have:=hcells _ u h4;rw[add_eq] at this ⊢;rw[hsz] at this;rw[show bo+(i.toNat*sz+off)+j=bo+(i.toNat*sz+(off+j)) by omega];exact this)
    refine ⟨u,r,E,H,rfl,λw' hst=>?_,hI,Env.le.refl E,k2,k3⟩;simp only[Instr.loadAt,Instr.sureAddr,pure_bind];exact k1 w' hst
   ·exact hk.elim
  ·exact ZpJ hI h hs hk
 ·exact ZpJ hI h hs hk
def ZjW (ti:TI) (id sz:Nat) (off:Nat) (sx:SV) (H:List Entry) (K:List Entry->Prop):Prop :=
 if (sx.whole&&ZlG sx.cells&&ZlF sx.cells ti.size)=true then ZeE H id λen=>match en with
  | .hsp et e d j cells fp=>if cells.length=sz/\off+ti.size<=sz then Zhs cells off sx.cells λnew=>Zfk H id (.hsp et e d j new fp) K else False
  | _=>False
 else False
def ZsV (ti:TI) (sa sx:SV) (H:List Entry) (K:List Entry->Prop):Prop :=
 match sa with
 | .oep id sz i off=>ZeE H id λen=>match en with
  | .spl et e d n fp=>i=n/\ZgM d n λx=>Qq e.ty x λcells=>Zfk H id (.hsp et e d n cells fp) λH'=>ZjW ti id sz off sx H' K
  | .hsp _ _ _ j _ _=>i=j/\ZjW ti id sz off sx H K
  | _=>Zqe ti sa sx H K
 | _=>Zqe ti sa sx H K
theorem Zk2 {B:Base} {E:Env} {H:List Entry} (hI:Inv B E H) {T:TypeId} {ti:TI} (h:ZbB P T ti) {id sz:Nat} {i:Int} {off:Nat} {sx:SV} {va vx:Value} (ha:den E (.oep id sz i off) va) (hx:den E sx vx)
  {et:TypeId} {e:Dp} {d:List e.ty.den} {cells:List SV} {fp:List Nat} (he1:H[id]?=some (.hsp et e d i cells fp)) {K:List Entry->Prop} (hk:ZjW ti id sz off sx H K):∃ E' H',(Instr.storeAt T va vx).run P E.w=.ok () E'.w/\Inv B E' H'/\E.le E'/\K H'/\E.w.grownBy E'.w (Yh va):=by
 unfold ZjW at hk;split at hk
 ·rename_i hc
  simp only[Bool.and_eq_true,ZlF,beq_iff_eq] at hc;obtain ⟨⟨hw,h1⟩,hlen⟩:=hc;have hdx:=Vt hx hw;have hl:=Yl _ _ hdx;have hone:=Zez _ _ hdx h1;have hsz:vx.cells.size=ti.size:=by rw[<-Array.length_toList,<-hl,hlen]
  have hsz':vx.cells.toList.length=ti.size:=by rw[<-hl,hlen]
  obtain ⟨en,hen,hk⟩:=Yy H hk;have:=he1.symm.trans hen;simp at this;subst this;simp only at hk;split at hk
  ·rename_i hcl
   obtain ⟨hcl,hfit⟩:=hcl;rw[Zfg] at hk;simp only[YU] at hk;simp only[den] at ha;obtain ⟨b,bo,n,c,g1,rfl⟩:=ha;obtain ⟨v,xs,x1,vxs,x2,f1,k1,ho,hi0,hi1,ex,el,el2,hr1,hr2,hdc,ef,hnd⟩:=hI.ent id _ he1;have:=g1.symm.trans k1;simp at this;subst this;have hvl:vxs.length=sz:=by rw[<-Yl _ _ hdc];exact hcl
   have hes:e.ty.size=sz:=by rw[<-el2,hvl]
   rcases ho.2 with ⟨hv,_⟩ | ⟨g,cap,cur,o,hv,hg0,hh,hcap,hml,hcs,htake⟩
   ·simp at hv
   ·simp only[Value.slice.injEq,Option.some.injEq,Addr.mk.injEq,and_true] at hv
    obtain ⟨⟨hbg,hbo⟩,hnl,hcc⟩:=hv;subst hbg;subst hbo;rw[hes] at ho hcs htake el;have hlt:i.toNat<d.length:=by omega
    have hcl':cur.toList.length=cur.size:=Array.length_toList;have hNle:bo+d.length*sz<=cur.toList.length:=by rw[hcl'];exact Nat.le_trans (Nat.add_le_add_left (Nat.mul_le_mul_right _ hcap) _) hcs
    have hit:i.toNat*sz+sz<=d.length*sz:=by rw[<-Nat.succ_mul];exact Nat.mul_le_mul_right _ hlt
    have hrun:=ZfI h E.w b (bo+(i.toNat*sz+off)) vx cur et hh hsz (by rw[<-hcl'];omega) hone;have hg:=Zdk E.w b (cur.toList.take (bo+(i.toNat*sz+off))++vx.cells.toList++cur.toList.drop (bo+(i.toNat*sz+off)+ti.size)).toArray;have hbfp:b∈fp:=by rw[ef];simp[Yh]
    have hle:=Zce hg hI.Slt (λg eq=>by simp at eq;subst eq;exact (hI.free id _ _ _ he1 rfl g1 hbfp).1);have hkeep:∀ f':List Nat,(∀ g∈f',g∈f1)->∀ g∈f',(E.w.setRow b (cur.toList.take (bo+(i.toNat*sz+off))++vx.cells.toList++cur.toList.drop (bo+(i.toNat*sz+off)+ti.size)).toArray).heap[g]?=E.w.heap[g]?:=by
     intro f' hsub g hgm;have hgfp:g∈fp:=by rw[ef];simp[hsub g hgm]
     refine hg.block g (hI.free id _ _ _ he1 rfl g1 hgfp).2.2 (λeq=>?_);simp at eq;subst eq;rw[ef] at hnd;simp only[Yh,Option.toList,List.cons_append,List.nil_append,List.nodup_cons] at hnd;exact hnd.1 (hsub g hgm)
    have hsp:=ZfC (t:=sz) cur.toList vx.cells.toList bo (d.length*sz) i.toNat off hNle hit (by rw[hsz'];omega);rw[hsz',htake] at hsp;have a1:xs.take (i.toNat*sz)=x1:=by rw[ex,<-el,List.append_assoc,List.take_left]
    have a2:(xs.drop (i.toNat*sz)).take sz=vxs:=by rw[ex,<-el,List.append_assoc,List.drop_left,<-hvl,List.take_left]
    have a3:xs.drop (i.toNat*sz+sz)=x2:=by rw[ex,<-el,<-hvl,show x1.length+vxs.length=(x1++vxs).length by simp,List.drop_left]
    rw[a1,a2,a3] at hsp;have hnew:=Zei (ZE hle _ _ hdc) (ZE hle _ _ hdx) off;rw[hsz'] at hnew;refine ⟨⟨E.S,E.w.setRow b _,E.ids⟩,_,hrun,hI.Zqi he1 rfl g1 (row:=some b) (λg eq=>by simp at eq;subst eq;exact hbfp) hg (.hsp et e d i (cells.take off++(sx.cells++cells.drop (off+sx.cells.length))) fp) (λ_ g hg=>hg) ?_,hle,hk,hg⟩;refine ⟨_,x1++(vxs.take off++vx.cells.toList++vxs.drop (off+ti.size))++x2,x1,_,x2,f1,g1,⟨?_,.inr ⟨b,cap,_,bo,?_,hg0,setRow_heap E.w b cur _ et (0,0) hh,by simpa using hcap,hml,?_,?_⟩⟩,hi0,hi1,rfl,by rw[el,hes],?_,?_,?_,hnew,ef,hnd⟩
    ·have hxl:=ho.1
     rw[ex] at hxl;rw[hes];simp only[List.length_append,List.length_take,List.length_drop,hsz'] at hxl ⊢;omega
    ·rw[hnl,hcc]
    ·rw[List.size_toArray,hes]
     simp only[List.length_append,List.length_take,List.length_drop,hsz'];rw[<-hcl'] at hcs;omega
    ·rw[List.toList_toArray,hes];exact hsp
    ·rw[hes]
     simp only[List.length_append,List.length_take,List.length_drop,hsz'];omega
    ·exact Xk _ _ _ (λd vs f hs=>Ye hle.S hle.w e d vs f (hkeep f (λg hg=>hs g hg))) hr1
    ·exact QD (λd vs=>Z7 hle.S hle.w e.ty d vs) _ _ hr2
  ·exact hk.elim
 ·exact hk.elim
theorem ZsW {B:Base} {E:Env} {H:List Entry} (hI:Inv B E H) {T:TypeId} {ti:TI} (h:ZbB P T ti) {sa sx:SV} {va vx:Value} (ha:den E sa va) (hx:den E sx vx)
  {K:List Entry->Prop} (hk:ZsV ti sa sx H K):∃ E' H',(Instr.storeAt T va vx).run P E.w=.ok () E'.w/\Inv B E' H'/\E.le E'/\K H'/\E.w.grownBy E'.w (Yh va):=by
 unfold ZsV at hk;split at hk
 ·rename_i id sz i off
  obtain ⟨en,he,hk⟩:=Yy H hk;split at hk
  ·rename_i et e d n fp
   obtain ⟨rfl,h0,h1,hk⟩:=hk;have hlt:i.toNat<d.length:=by omega
   have hg:d[i.toNat]?=some d[i.toNat]:=List.getElem?_eq_getElem hlt;have hk:=hk _ hg;simp only[Xr,YU] at hk;have hI1:=Zq3 hI he h1 hg;exact Zk2 hI1 h ha hx (List.getElem?_set_self (List.getElem?_eq_some_iff.1 he).1) hk
  ·rename_i et e d j cells fp
   obtain ⟨rfl,hk⟩:=hk;exact Zk2 hI h ha hx he hk
  ·exact Zob hI h ha hx hk
 ·exact Zob hI h ha hx hk
def Zrv (et:TypeId) (e:Dp) (id:Nat) (H:List Entry) (K:List e.ty.den->Int->List Entry->Prop):Prop :=
 ZeE H id λen=>match en with
  | .arr et' t d=>if h:t=e.ty then (if et'=et then Zfk H id .gone λH'=>Zqq h d λd'=>K d' 0 H' else False) else False
  | .spl et' e' d n _=>if h:e'=e then (if et'=et then Zfk H id .gone λH'=>Zoq h d λd'=>K d' n H' else False) else False
  | .hsp et' e' d i cells _=>if h:e'=e then (if et'=et then Zfk H id .gone λH0=>Zoq h d λd'=>QU e cells H0 λx rest H1=>match rest with
    | []=>K (d'.set i.toNat x) (i+1) H1
    | _=>False
   else False) else False
  | _=>False
theorem Zrw {B:Base} {et:TypeId} {e:Dp} {id:Nat} {E:Env} {H:List Entry} (hI:Inv B E H) {gs:List Nat} (hL:Loose B E H gs) {K:List e.ty.den->Int->List Entry->Prop} (hk:Zrv et e id H K) :
  ∃ E' H' d n u f,Frz E H E' H'/\Inv B E' H'/\E'.ids[id]?=some u/\(∀ c,H[id]?≠some (.box c))/\Zw2 E'.S E'.w et e d n u f/\K d n H'/\Loose B E' H' (f++gs)/\∀ (i:Nat) (c:List SV),H[i]?=some (.box c)->H'[i]?=some (.box c):=by
 unfold Zrv at hk;obtain ⟨en,he,hq⟩:=Yy H hk;clear hk;split at hq
 ·rename_i et' t d
  split at hq
  ·rename_i ht;subst ht
   split at hq
   ·rename_i het;subst het
    rw[YU,Zph] at hq;obtain ⟨v,xs,e1,h2,h3⟩:=hI.ent id _ he;refine ⟨E,_,d,0,v,(Yh v).toList,Frz.one he rfl e1 rfl (Env.le.refl E) (λb hb=>.inl hb),hI.drop id,e1,(λc hc=>by rw[he] at hc;cases hc),⟨xs,[],xs,[],h2,by omega,by omega,rfl,by simp,⟨rfl,rfl⟩,h3,by simp⟩,hq,?_,Zgc he (λc h=>by cases h)⟩;exact hL.take hI he rfl e1 (by cases Yh v<;>simp) (λg hg=>by
     show Yh v=some g;simpa using hg)
   ·exact hq.elim
  ·exact hq.elim
 ·rename_i et' e' d n fp
  split at hq
  ·rename_i ht;subst ht
   split at hq
   ·rename_i het;subst het
    rw[YU,ZgC] at hq;obtain ⟨v,e1,hr,h5⟩:=hI.ent id _ he;exact ⟨E,_,d,n,v,fp,Frz.one he rfl e1 rfl (Env.le.refl E) (λb hb=>.inl hb),hI.drop id,e1,(λc hc=>by rw[he] at hc;cases hc),hr,hq,hL.take hI he rfl e1 h5 (λg hg=>hg),Zgc he (λc h=>by cases h)⟩
   ·exact hq.elim
  ·exact hq.elim
 ·rename_i et' e' d i cells fp
  split at hq
  ·rename_i ht;subst ht
   split at hq
   ·rename_i het;subst het
    rw[YU,ZgC] at hq;obtain ⟨v,xs,x1,vx,x2,f1,e1,h2,hi0,hi1,ex,el,el2,hr1,hr2,hdc,ef,hnd⟩:=hI.ent id _ he;have t1:Frz E H E (H.set id .gone):=Frz.one he rfl e1 rfl (Env.le.refl E) (λb hb=>.inl hb);obtain ⟨E',H',x,rest,u1,u2,f,hf,hI',eu,hrx,hrest,hq,hL',hT,hb⟩:=ZaM e' cells (hI.drop id) hdc (hL.take hI he rfl e1 hnd (λg hg=>hg)) hq;split at hq
    ·have hv2:u2=[]:=by cases u2 with
      | nil=>rfl
      | cons=>simp[ZT] at hrest
     subst hv2;rw[List.append_nil] at eu;subst eu;have hkeep:∀ (g:Nat),E'.w.heap[g]?=E.w.heap[g]?:=λg=>by rw[hf.w]
     have hlt:i.toNat<d.length:=by omega
     have hperm:(f++(fp++gs)).Perm ((Yh v).toList++(f1++f)++gs):=by
      rw[<-List.append_assoc];refine List.Perm.append_right gs ?_;rw[ef,<-List.append_assoc (Yh v).toList];exact List.perm_append_comm
     have hlen:(d.set i.toNat x).take (i.toNat+1)=d.take i.toNat++[x]:=by
      rw[List.take_add_one,List.getElem?_set_self hlt,List.take_set,List.set_eq_of_length_le (by simp;omega)];rfl
     refine ⟨E',H',d.set i.toNat x,i+1,v,(Yh v).toList++(f1++f),t1.trans hf,hI',by rw[hf.ids];exact e1,(λc hc=>by rw[he] at hc;cases hc),⟨xs,x1++vx,x2,f1++f,?_,by omega,by simp;omega,by rw[ex],?_,?_,?_,rfl⟩,hq,hL'.perm hperm,λj c hj=>hb j c (Zgc he (λc h=>by cases h) j c hj)⟩
     ·rw[List.length_set,hf.w];exact h2
     ·rw[List.length_append,el,el2,show (i+1).toNat=i.toNat+1 by omega,Nat.succ_mul]
     ·rw[show (i+1).toNat=i.toNat+1 by omega,hlen]
      exact ZeN _ _ _ _ _ _ (Xk _ _ _ (λd vs f _=>Ye hf.le.S hf.le.w e' d vs f (λg _=>hkeep g)) hr1) ⟨vx,[],f,[],by simp,by simp,hrx,rfl,rfl⟩
     ·rw[show (i+1).toNat=i.toNat+1 by omega,List.drop_set_of_lt (by omega)]
      exact QD (λd vs=>Z7 hf.le.S hf.le.w e'.ty d vs) _ _ hr2
    ·exact hq.elim
   ·exact hq.elim
  ·exact hq.elim
 ·exact hq.elim
end
end Go.Sx
