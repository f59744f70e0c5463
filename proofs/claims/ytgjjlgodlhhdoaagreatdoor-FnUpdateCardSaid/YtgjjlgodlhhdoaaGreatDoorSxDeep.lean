/-
  Loads, stores, append, make and literals of lists that own lists.
-/
import Derived.Test.YtgjjlgodlhhdoaaGreatDoorSxClose
namespace Go.Sx
set_option linter.unusedVariables false
set_option linter.unusedSimpArgs false
section
variable {P:Program}
theorem ZvH {E:Env} {id:Nat} {et:TypeId} {e:Dp} {d:List e.ty.den} {i:Int} {cells:List SV} {fp:List Nat} (h:Zpr E id (.hole et e d i cells fp)) :
  ∃ b o n c vx,E.ids[id]?=some (.slice (some ⟨b,o,none⟩) n c)/\ZT E cells vx/\vx.length=e.ty.size/\∀ j u,vx[j]?=some u->E.w.cell? ((⟨b,o+i.toNat*e.ty.size,none⟩:Addr).add j)=some u:=by
 obtain ⟨v,xs,x1,vx,x2,f1,f2,e1,h2,hi0,hi1,ex,el,el2,hr1,hr2,hdc,ef,hnd⟩:=h;rcases h2.2 with ⟨rfl,hn⟩ | ⟨g,cap,cur,o,rfl,_⟩
 ·omega
 ·refine ⟨g,o,_,cap,vx,e1,hdc,el2,λj u hu=>?_⟩
  have hc:=h2.Zfp rfl;have hj:xs[i.toNat*e.ty.size+j]?=some u:=by
   rw[ex,List.append_assoc,List.getElem?_append_right (by omega),el,show i.toNat*e.ty.size+j-i.toNat*e.ty.size=j by omega,List.getElem?_append_left (List.getElem?_eq_some_iff.1 hu).1];exact hu
  have:=hc _ u hj;rw[add_eq] at this ⊢;rw[Nat.add_assoc];exact this
def reopen (et:TypeId) (e:Dp) (id:Nat) (i:Int) (H:List Entry) (K:List SV->List Entry->Prop):Prop :=
 closeAll (.ol et e) [.own id] H λd H0=>ZgM d i λx=>Qg e x H0 λcells H1=>∀ fp:List Nat,Zfk H1 id (.hole et e d i cells fp) λH2=>K cells H2
def Zp3 (id:Nat) (i:Int) (H:List Entry) (K:List SV->List Entry->Prop):Prop :=
 ZeE H id λen=>match en with
 | .darr et e _ _=>reopen et e id i H K
 | .hole et e _ j cells _=>(i=j/\K cells H)\/reopen et e id i H K
 | _=>False
def ZuN (B:Base) (E:Env) (H:List Entry) (id:Nat) (i:Int) (K:List SV->List Entry->Prop):Prop :=
 ∃ E' H' et e d cells fp,E'.w=E.w/\Inv B E' H'/\E.le E'/\H'[id]?=some (.hole et e d i cells fp)/\K cells H'
theorem ZnS {B:Base} {E:Env} {H:List Entry} (hI:Inv B E H) {et:TypeId} {e:Dp} {id:Nat} {v:Value} (hv:den E (.own id) v) {i:Int} {K:List SV->List Entry->Prop} (hk:reopen et e id i H K):ZuN B E H id i K:=by
 unfold reopen at hk;obtain ⟨E1,H1,d,f,hf,hI1,hr,hk,hL,hT,hb⟩:=Qi hI (show ZT E [.own id] [v] from ⟨hv,trivial⟩) (gs:=[]) ⟨List.nodup_nil,λg hg=>by simp at hg,λg hg=>by simp at hg⟩ hk;simp only[den] at hv;obtain ⟨v',xs,fps,ev,ho,hr,ef⟩:=hr;simp at ev;subst ev;obtain ⟨hi0,hi1,hk⟩:=hk;have hlt:i.toNat<d.length:=by omega
 have hx:d[i.toNat]?=some d[i.toNat]:=List.getElem?_eq_getElem hlt;have hk:=hk _ hx;obtain ⟨x1,vx,x2,f1,fx,f2,e1,e2,e3,h1,h2,h3⟩:=ZkP (λd vs f=>ZaB e d vs f) _ _ _ hr _ _ hx;have hp:(f++[]).Perm (fx++((Yh v).toList++f1++f2)):=by
  rw[List.append_nil,ef,e2];have:((Yh v).toList++(f1++fx++f2)).Perm ((Yh v).toList++f1++fx++f2):=by simp[List.append_assoc]
  refine this.trans ?_;rw[<-List.append_assoc];exact (List.perm_append_comm).append_right f2
 have hL1:=hL.perm hp;obtain ⟨E2,H2,cells,hw2,hS2,hI2,hle2,hd2,hk,hL2,l,hl⟩:=QS e _ hI1 h2 hL1 hk;have hk:=hk ((Yh v).toList++f1++f2);rw[YU] at hk;have hid1:E1.ids[id]?=some v:=by rw[hf.ids];exact hv.1
 have hid2:E2.ids[id]?=some v:=hle2.ids _ _ hid1;have hlt2:id<H2.length:=by
  have:=(List.getElem?_eq_some_iff.1 hid2).1;rw[<-hI2.len];exact this
 have hkeep:∀ g:Nat,E2.w.heap[g]?=E1.w.heap[g]?:=λg=>by rw[hw2]
 obtain ⟨hI3,_⟩:=Loose.put (gs:=[]) (by rw[List.append_nil];exact hL2) hI2 hlt2 hid2 (.hole et e d i cells ((Yh v).toList++f1++f2)) (λ_ g hg=>hg)
  ⟨v,xs,x1,vx,x2,f1,f2,hid2,by rw[hw2];exact ho,hi0,hi1,e1,e3,ZaB e _ _ _ h2,
   Xk _ _ _ (λd vs f _=>Ye hle2.S hle2.w e d vs f (λg _=>hkeep g)) h1,
   Xk _ _ _ (λd vs f _=>Ye hle2.S hle2.w e d vs f (λg _=>hkeep g)) h3,hd2,rfl,hL2.nodup⟩
 exact ⟨E2,_,et,e,d,cells,_,hw2.trans hf.w,hI3,hf.le.trans hle2,List.getElem?_set_self hlt2,hk⟩
theorem ZnK {B:Base} {E:Env} {H:List Entry} (hI:Inv B E H) {id:Nat} {v:Value} (hv:den E (.own id) v) {i:Int} {K:List SV->List Entry->Prop} (hk:Zp3 id i H K):ZuN B E H id i K:=by
 unfold Zp3 at hk;obtain ⟨en,he,hk⟩:=Yy H hk;split at hk
 ·exact ZnS hI hv hk
 ·rename_i et e d j cells fp
  rcases hk with ⟨rfl,hk⟩ | hk
  ·exact ⟨E,H,et,e,d,cells,fp,rfl,hI,Env.le.refl E,he,hk⟩
  ·exact ZnS hI hv hk
 ·exact hk.elim
def Zr6:Entry->Bool
 | .darr _ _ _ _=>true
 | .hole _ _ _ _ _ _=>true
 | _=>false
def Zzf:Entry->Nat
 | .darr _ e _ _=>e.ty.size
 | .hole _ e _ _ _ _=>e.ty.size
 | _=>0
theorem Zsl {E:Env} {id sz:Nat} {i:Int} {off:Nat} {v:Value} (h:den E (.oep id sz i off) v):∃ u,den E (.own id) u:=by
 simp only[den] at h ⊢;obtain ⟨b,bo,n,c,h1,_⟩:=h;exact ⟨_,h1,_,_,_,rfl⟩
def ZtS (ti:TI) (s:SV) (H:List Entry) (K:SV->List Entry->Prop):Prop :=
 match s with
 | .oep id sz i off=>ZeE H id λen=>if Zr6 en=true then (if Zzf en=sz then Zp3 id i H λcells H'=>if cells.length=sz then Zgj cells off λcs=>Qw ti cs λr=>K r H' else False else False) else ZqG ti s H λr=>K r H
 | _=>ZqG ti s H λr=>K r H
theorem ZpJ {B:Base} {E:Env} {H:List Entry} (hI:Inv B E H) {T:TypeId} {ti:TI} (h:ZbB P T ti) {s:SV} {v:Value} (hs:den E s v) {K:SV->List Entry->Prop} (hk:ZtS ti s H K) :
  ∃ u r E' H',E'.w=E.w/\Ztm P E.w (Instr.loadAt T v) u/\Inv B E' H'/\E.le E'/\den E' r u/\K r H':=by
 have old:ZqG ti s H (λr=>K r H)->∃ u r E' H',E'.w=E.w/\Ztm P E.w (Instr.loadAt T v) u/\Inv B E' H'/\E.le E'/\den E' r u/\K r H':=by
  intro hk;obtain ⟨u,r,h1,h2,h3⟩:=ZpK hI h hs hk;exact ⟨u,r,E,H,rfl,h1,hI,Env.le.refl E,h2,h3⟩
 unfold ZtS at hk;split at hk
 ·rename_i id sz i off
  obtain ⟨en,he,hk⟩:=Yy H hk;split at hk
  ·split at hk
   ·obtain ⟨w0,hw0⟩:=Zsl hs
    obtain ⟨E1,H1,et,e,d,cells,fp,hw1,hI1,hle1,he1,hk⟩:=ZnK hI hw0 hk;split at hk
    ·rename_i hcl
     rw[ZaN] at hk;obtain ⟨b,bo,n,c,vx,h1,h2,h3,h4⟩:=ZvH (hI1.ent id _ he1);simp only[den] at hs;obtain ⟨b',bo',n',c',g1,rfl⟩:=hs;have:=(hle1.ids _ _ g1).symm.trans h1;simp at this;obtain ⟨⟨rfl,rfl⟩,rfl,rfl⟩:=this;have hvl:vx.length=sz:=by rw[<-Yl _ _ h2];exact hcl
     have hes:e.ty.size=sz:=by rw[<-h3,hvl]
     obtain ⟨u,r,k1,k2,k3⟩:=ZfB h E1.w ⟨b',bo'+(i.toNat*sz+off),none⟩ hk (vx.drop off) (Vv _ _ h2 off) (λj u hu=>by
      have:=h4 (off+j) u (by simpa using hu);rw[add_eq] at this ⊢;rw[hes] at this;rw[show bo'+(i.toNat*sz+off)+j=bo'+i.toNat*sz+(off+j) by omega];exact this)
     refine ⟨u,r,E1,H1,hw1,λw' hst=>?_,hI1,hle1,k2,k3⟩;rw[hw1] at k1;simp only[Instr.loadAt,Instr.sureAddr,pure_bind];exact k1 w' hst
    ·exact hk.elim
   ·exact hk.elim
  ·exact old hk
 ·exact old hk
def Zk1 (ti:TI) (id sz:Nat) (i:Int) (off:Nat) (sx:SV) (H:List Entry) (K:List Entry->Prop):Prop :=
 if (sx.whole&&ZlG sx.cells&&ZlF sx.cells ti.size)=true then Zp3 id i H λcells H'=>if cells.length=sz/\off+ti.size<=sz then Zhs cells off sx.cells λnew=>ZeE H' id λen=>match en with
  | .hole et e d j _ fp=>Zfk H' id (.hole et e d j new fp) K
  | _=>False
 else False else False
def Zqe (ti:TI) (sa sx:SV) (H:List Entry) (K:List Entry->Prop):Prop :=
 match sa with
 | .oep id sz i off=>ZeE H id λen=>if Zr6 en=true then Zk1 ti id sz i off sx H K else Zqf ti sa sx H K
 | _=>Zqf ti sa sx H K
theorem Zoc {B:Base} {E:Env} {H:List Entry} (hI:Inv B E H) {T:TypeId} {ti:TI} (h:ZbB P T ti) {id sz:Nat} {i:Int} {off:Nat} {sx:SV} {va vx:Value} (ha:den E (.oep id sz i off) va) (hx:den E sx vx)
  {K:List Entry->Prop} (hk:Zk1 ti id sz i off sx H K):∃ E' H',(Instr.storeAt T va vx).run P E.w=.ok () E'.w/\Inv B E' H'/\E.le E'/\K H'/\E.w.grownBy E'.w (Yh va):=by
 unfold Zk1 at hk;split at hk
 ·rename_i hc
  simp only[Bool.and_eq_true,ZlF,beq_iff_eq] at hc;obtain ⟨⟨hw,h1⟩,hlen⟩:=hc;have hdx:=Vt hx hw;have hl:=Yl _ _ hdx;have hone:=Zez _ _ hdx h1;have hsz:vx.cells.size=ti.size:=by rw[<-Array.length_toList,<-hl,hlen]
  have hsz':vx.cells.toList.length=ti.size:=by rw[<-hl,hlen]
  obtain ⟨w0,hw0⟩:=Zsl ha;obtain ⟨E1,H1,et,e,d,cells,fp,hw1,hI1,hle1,he1,hk⟩:=ZnK hI hw0 hk;split at hk
  ·rename_i hcl
   obtain ⟨hcl,hfit⟩:=hcl;rw[Zfg] at hk;obtain ⟨en,hen,hk⟩:=Yy H1 hk;have:=he1.symm.trans hen;simp at this;subst this;simp only[YU] at hk;simp only[den] at ha;obtain ⟨b,bo,n,c,g1,rfl⟩:=ha;have g1':=hle1.ids _ _ g1;obtain ⟨v,xs,x1,vxs,x2,f1,f2,k1,ho,hi0,hi1,ex,el,el2,hr1,hr2,hdc,ef,hnd⟩:=hI1.ent id _ he1;have:=g1'.symm.trans k1;simp at this;subst this;have hvl:vxs.length=sz:=by rw[<-Yl _ _ hdc];exact hcl
   have hes:e.ty.size=sz:=by rw[<-el2,hvl]
   rcases ho.2 with ⟨hv,_⟩ | ⟨g,cap,cur,o,hv,hg0,hh,hcap,hml,hcs,htake⟩
   ·simp at hv
   ·simp only[Value.slice.injEq,Option.some.injEq,Addr.mk.injEq,and_true] at hv
    obtain ⟨⟨hbg,hbo⟩,hnl,hcc⟩:=hv;subst hbg;subst hbo;rw[hes] at ho hcs htake el;have hlt:i.toNat<d.length:=by omega
    have hcl':cur.toList.length=cur.size:=Array.length_toList;have hNle:bo+d.length*sz<=cur.toList.length:=by rw[hcl'];exact Nat.le_trans (Nat.add_le_add_left (Nat.mul_le_mul_right _ hcap) _) hcs
    have hit:i.toNat*sz+sz<=d.length*sz:=by rw[<-Nat.succ_mul];exact Nat.mul_le_mul_right _ hlt
    have hrun:=ZfI h E1.w b (bo+(i.toNat*sz+off)) vx cur et hh hsz (by rw[<-hcl'];omega) hone;have hg:=Zdk E1.w b (cur.toList.take (bo+(i.toNat*sz+off))++vx.cells.toList++cur.toList.drop (bo+(i.toNat*sz+off)+ti.size)).toArray;have hbfp:b∈fp:=by rw[ef];simp[Yh]
    have hle:=Zce hg hI1.Slt (λg eq=>by simp at eq;subst eq;exact (hI1.free id _ _ _ he1 rfl g1' hbfp).1);have hkeep:∀ f':List Nat,(∀ g∈f',g∈f1\/g∈f2)->∀ g∈f',(E1.w.setRow b (cur.toList.take (bo+(i.toNat*sz+off))++vx.cells.toList++cur.toList.drop (bo+(i.toNat*sz+off)+ti.size)).toArray).heap[g]?=E1.w.heap[g]?:=by
     intro f' hsub g hgm;have hgfp:g∈fp:=by rw[ef];simp only[List.mem_append];rcases hsub g hgm with h' | h'<;>simp[h']
     refine hg.block g (hI1.free id _ _ _ he1 rfl g1' hgfp).2.2 (λeq=>?_);simp at eq;subst eq;rw[ef] at hnd;simp only[Yh,Option.toList,List.cons_append,List.nil_append,List.nodup_cons,List.mem_append] at hnd;exact hnd.1 (hsub g hgm)
    have hsp:=ZfC (t:=sz) cur.toList vx.cells.toList bo (d.length*sz) i.toNat off hNle hit (by rw[hsz'];omega);rw[hsz',htake] at hsp;have a1:xs.take (i.toNat*sz)=x1:=by rw[ex,<-el,List.append_assoc,List.take_left]
    have a2:(xs.drop (i.toNat*sz)).take sz=vxs:=by rw[ex,<-el,List.append_assoc,List.drop_left,<-hvl,List.take_left]
    have a3:xs.drop (i.toNat*sz+sz)=x2:=by rw[ex,<-el,<-hvl,show x1.length+vxs.length=(x1++vxs).length by simp,List.drop_left]
    rw[a1,a2,a3] at hsp;have hnew:=Zei (ZE hle _ _ hdc) (ZE hle _ _ (ZE hle1 _ _ hdx)) off;rw[hsz'] at hnew;refine ⟨⟨E1.S,E1.w.setRow b _,E1.ids⟩,_,?_,hI1.Zqi he1 rfl g1' (row:=some b) (λg eq=>by simp at eq;subst eq;exact hbfp) hg (.hole et e d i (cells.take off++(sx.cells++cells.drop (off+sx.cells.length))) fp) (λ_ g hg=>hg) ?_,hle1.trans hle,hk,by rw[<-hw1];exact hg⟩
    ·rw[<-hw1];exact hrun
    ·refine ⟨_,x1++(vxs.take off++vx.cells.toList++vxs.drop (off+ti.size))++x2,x1,_,x2,f1,f2,g1',⟨?_,.inr ⟨b,cap,_,bo,?_,hg0,setRow_heap E1.w b cur _ et (0,0) hh,by simpa using hcap,hml,?_,?_⟩⟩,hi0,hi1,rfl,by rw[el,hes],?_,?_,?_,hnew,ef,hnd⟩
     ·have hxl:=ho.1
      rw[ex] at hxl;rw[hes];simp only[List.length_append,List.length_take,List.length_drop,hsz'] at hxl ⊢;omega
     ·rw[hnl,hcc]
     ·rw[List.size_toArray,hes]
      simp only[List.length_append,List.length_take,List.length_drop,hsz'];rw[<-hcl'] at hcs;omega
     ·rw[List.toList_toArray,hes];exact hsp
     ·rw[hes]
      simp only[List.length_append,List.length_take,List.length_drop,hsz'];omega
     ·exact Xk _ _ _ (λd vs f hs=>Ye hle.S hle.w e d vs f (hkeep f (λg hg=>.inl (hs g hg)))) hr1
     ·exact Xk _ _ _ (λd vs f hs=>Ye hle.S hle.w e d vs f (hkeep f (λg hg=>.inr (hs g hg)))) hr2
  ·exact hk.elim
 ·exact hk.elim
theorem Zob {B:Base} {E:Env} {H:List Entry} (hI:Inv B E H) {T:TypeId} {ti:TI} (h:ZbB P T ti) {sa sx:SV} {va vx:Value} (ha:den E sa va) (hx:den E sx vx)
  {K:List Entry->Prop} (hk:Zqe ti sa sx H K):∃ E' H',(Instr.storeAt T va vx).run P E.w=.ok () E'.w/\Inv B E' H'/\E.le E'/\K H'/\E.w.grownBy E'.w (Yh va):=by
 unfold Zqe at hk;split at hk
 ·obtain ⟨en,he,hk⟩:=Yy H hk
  split at hk
  ·exact Zoc hI h ha hx hk
  ·exact Zod hI h ha hx hk
 ·exact Zod hI h ha hx hk
end
end Go.Sx
