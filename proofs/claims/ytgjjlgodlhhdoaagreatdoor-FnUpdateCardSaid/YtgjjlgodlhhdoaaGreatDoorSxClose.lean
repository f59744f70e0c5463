/-
  What was opened is closed: the cells are read back as a datum that owns its lists.
-/
import Derived.Test.YtgjjlgodlhhdoaaGreatDoorSxOpen
namespace Go.Sx
set_option linter.unusedVariables false
set_option linter.unusedSimpArgs false
def Zoq {e' e:Dp} (h:e'=e) (d:List e'.ty.den) (K:List e.ty.den->Prop):Prop:=Eq.rec (motive:=λe _=>(List e.ty.den->Prop)->Prop) (λK=>K d) h K
theorem ZgC {e' e:Dp} (h:e'=e) (d:List e'.ty.den) (K:List e.ty.den->Prop):Zoq h d K=K (h▸d):=by subst h;rfl
def Zn9:Nat->List SV->(List SV->List SV->Prop)->Prop
 | 0,cs,K=>K [] cs
 | n+1,cs,K=>match cs with
  | c::cs=>Zn9 n cs λa b=>K (c::a) b
  | []=>False
theorem Zoa {E:Env}:∀ (n:Nat) (cs:List SV) (vs:List Value),ZT E cs vs->∀ {K:List SV->List SV->Prop},Zn9 n cs K->∃ a b va vb,vs=va++vb/\ZT E a va/\ZT E b vb/\K a b
 | 0,cs,vs,hd,K,hk=>⟨[],cs,[],vs,rfl,trivial,hd,hk⟩
 | n+1,[],vs,hd,K,hk=>by simp only[Zn9] at hk
 | n+1,c::cs,vs,hd,K,hk=>by
  match vs,hd with
  | v::vs,hd =>
   simp only[ZT] at hd;simp only[Zn9] at hk;obtain ⟨a,b,va,vb,e,h1,h2,h3⟩:=Zoa n cs vs hd.2 hk;exact ⟨c::a,b,v::va,vb,by rw[e];rfl,⟨hd.1,h1⟩,h2,h3⟩
  | [],hd=>simp[ZT] at hd
def QU:(e:Dp)->List SV->List Entry->(e.ty.den->List SV->List Entry->Prop)->Prop
 | .flat t,cs,H,K=>Zn9 t.size cs λc1 c2=>Qu c1 H λc1' H'=>Xi t c1' λd rest=>match rest with
   | []=>K d c2 H'
   | _=>False
 | .ol et e,cs,H,K=>match cs with
   | s::r=>match s with
    | .nsl=>K [] r H
    | .own id=>ZeE H id λen=>match en with
     | .arr et' t d=>if h:Dp.flat t=e then (if et'=et then Zfk H id .gone λH'=>Zoq h d λd'=>K d' r H' else False) else False
     | .darr et' e' d _=>if h:e'=e then (if et'=et then Zfk H id .gone λH'=>Zoq h d λd'=>K d' r H' else False) else False
     | .hole et' e' d i cells _=>if h:e'=e then (if et'=et then Zfk H id .gone λH0=>Zoq h d λd'=>QU e cells H0 λx rest H1=>match rest with
       | []=>K (d'.set i.toNat x) r H1
       | _=>False
      else False) else False
     | .spl et' e' d n _=>if h:e'=e then (if et'=et then (n=(d.length:Int)/\Zfk H id .gone λH'=>Zoq h d λd'=>K d' r H') else False) else False
     | _=>False
    | _=>False
   | []=>False
 | .mp k v,cs,H,K=>match cs with
   | s::r=>match s with
    | .mown id=>ZeE H id λen=>match en with
     | .mpe k' v' d=>if h:k'=k then (if h':v'=v then Zfk H id .gone λH'=>ZwH h h' d λd'=>K d' r H' else False) else False
     | _=>False
    | _=>False
   | []=>False
 | .pair a b,cs,H,K=>QU a cs H λx r H1=>QU b r H1 λy r' H2=>K (x,y) r' H2
def Closed (B:Base) (e:Dp) (E:Env) (H:List Entry) (vs:List Value) (gs:List Nat) (K:e.ty.den->List SV->List Entry->Prop):Prop :=
 ∃ E' H' x rest v1 v2 f,Frz E H E' H'/\Inv B E' H'/\vs=v1++v2/\Zfj E'.S E'.w e x v1 f/\ZT E' rest v2/\K x rest H'/\Loose B E' H' (f++gs)/\ZgV E H H' f/\∀ (i:Nat) (c:List SV),H[i]?=some (.box c)->H'[i]?=some (.box c)
theorem Zr2 {H:List Entry} {id:Nat} {e0:Entry} (h:H[id]?=some e0):(H.set id .gone)[id]?=some .gone:=List.getElem?_set_self (List.getElem?_eq_some_iff.1 h).1
theorem Zgc {H:List Entry} {id:Nat} {e0 e1:Entry} (h:H[id]?=some e0) (hb:∀ c,e0≠.box c):∀ (i:Nat) (c:List SV),H[i]?=some (.box c)->(H.set id e1)[i]?=some (.box c):=by
 intro i c hi;by_cases hii:id=i
 ·subst hii;rw[h] at hi;simp at hi;exact absurd hi (hb c)
 ·rw[List.getElem?_set_ne hii];exact hi
theorem ZaM {B:Base}:∀ (e:Dp) (cs:List SV) {E:Env} {H:List Entry} (_:Inv B E H) {vs:List Value} (_:ZT E cs vs) {gs:List Nat} (_:Loose B E H gs) {K:e.ty.den->List SV->List Entry->Prop} (_:QU e cs H K),Closed B e E H vs gs K
 | .flat t,cs,E,H,hI,vs,hd,gs,hL,K,hk=>by
  simp only[QU] at hk;obtain ⟨c1,c2,va,vb,e1,h1,h2,hk⟩:=Zoa _ _ _ hd hk;obtain ⟨E',H',c1',hf,hI',hd',hk,hb⟩:=XI c1 hI h1 hk;obtain ⟨d,rest,u1,u2,e2,hr,hrest,hk⟩:=Y4 t c1' _ va hd' hk;split at hk
  ·have hv2:u2=[]:=by cases u2 with
    | nil=>rfl
    | cons=>simp[ZT] at hrest
   subst hv2;rw[List.append_nil] at e2;subst e2;exact ⟨E',H',d,c2,va,vb,[],hf,hI',e1,⟨rfl,hr⟩,ZE hf.le _ _ h2,hk,hL.frz hf,ZgV.nil _ _ _,hb⟩
  ·exact hk.elim
 | .ol et e,cs,E,H,hI,vs,hd,gs,hL,K,hk=>by
  simp only[QU] at hk;split at hk
  ·rename_i s r
   match vs,hd with
   | [],hd=>simp[ZT] at hd
   | v::vs,hd =>
    simp only[ZT] at hd;obtain ⟨hd1,hd2⟩:=hd;split at hk
    ·simp only[den] at hd1;subst hd1
     exact ⟨E,H,[],r,[_],vs,[],Frz.refl E H,hI,rfl,⟨_,[],[],rfl,World.ZgI _ _ _ _,⟨rfl,rfl⟩,rfl⟩,hd2,hk,hL,ZgV.nil _ _ _,λ_ _ h=>h⟩
    ·rename_i id
     obtain ⟨en,he,hq⟩:=Yy H hk;clear hk;simp only[den] at hd1;have took:∀ (f:List Nat),en.live=true->f.Nodup->(∀ g∈f,ZeY en v g)->Frz E H E (H.set id .gone)/\Inv B E (H.set id .gone)/\Loose B E (H.set id .gone) (f++gs)/\ZgV E H (H.set id .gone) f:=by
      intro f hl hnd hf;exact ⟨Frz.one he hl hd1.1 rfl (Env.le.refl E) (λb hb=>.inl hb),hI.drop id,hL.take hI he hl hd1.1 hnd hf,λg hg=>⟨id,en,v,he,hl,hd1.1,hf g hg,Zr2 he⟩⟩
     split at hq
     ·rename_i et' t d
      split at hq
      ·rename_i ht;subst ht
       split at hq
       ·rename_i het;subst het
        rw[YU,ZgC] at hq;obtain ⟨v',xs,e1,h2,h3⟩:=hI.ent id _ he;have:=hd1.1.symm.trans e1;simp at this;subst this;obtain ⟨t1,t2,t3,t4⟩:=took (Yh v).toList rfl (by cases Yh v<;>simp) (λg hg=>by
         show Yh v=some g;simpa using hg)
        exact ⟨E,_,d,r,[v],vs,(Yh v).toList,t1,t2,rfl,⟨v,xs,[],rfl,h2,Zi3 _ _ h3,by simp⟩,hd2,hq,t3,t4,Zgc he (λc h=>by cases h)⟩
       ·exact hq.elim
      ·exact hq.elim
     ·rename_i et' e' d fp
      split at hq
      ·rename_i ht;subst ht
       split at hq
       ·rename_i het;subst het
        rw[YU,ZgC] at hq;obtain ⟨v',xs,fps,e1,h2,h3,h4,h5⟩:=hI.ent id _ he;have:=hd1.1.symm.trans e1;simp at this;subst this;obtain ⟨t1,t2,t3,t4⟩:=took fp rfl h5 (λg hg=>hg);exact ⟨E,_,d,r,[v],vs,fp,t1,t2,rfl,⟨v,xs,fps,rfl,h2,h3,h4⟩,hd2,hq,t3,t4,Zgc he (λc h=>by cases h)⟩
       ·exact hq.elim
      ·exact hq.elim
     ·rename_i et' e' d i cells fp
      split at hq
      ·rename_i ht;subst ht
       split at hq
       ·rename_i het;subst het
        rw[YU,ZgC] at hq;obtain ⟨v',xs,x1,vx,x2,f1,f2,e1,h2,hi0,hi1,ex,el,el2,hr1,hr2,hdc,ef,hnd⟩:=hI.ent id _ he;have:=hd1.1.symm.trans e1;simp at this;subst this;obtain ⟨t1,t2,t3,t4⟩:=took fp rfl hnd (λg hg=>hg);obtain ⟨E',H',x,rest,u1,u2,f,hf,hI',eu,hrx,hrest,hq,hL',hT,hb⟩:=ZaM e' cells t2 hdc t3 hq;split at hq
        ·have hv2:u2=[]:=by cases u2 with
          | nil=>rfl
          | cons=>simp[ZT] at hrest
         subst hv2;rw[List.append_nil] at eu;subst eu;have hperm:(f++(fp++gs)).Perm ((Yh v).toList++(f1++f++f2)++gs):=by
          rw[ef];refine List.Perm.trans ?_ (List.Perm.refl _);rw[<-List.append_assoc];refine List.Perm.append_right gs ?_;have:(f++((Yh v).toList++f1++f2)).Perm ((Yh v).toList++f1++(f++f2)):=by
           rw[<-List.append_assoc,<-List.append_assoc ((Yh v).toList++f1)];exact List.perm_append_comm.append_right f2
          refine this.trans ?_;simp[List.append_assoc]
         have hkeep:∀ (g:Nat),E'.w.heap[g]?=E.w.heap[g]?:=λg=>by rw[hf.w]
         refine ⟨E',H',d.set i.toNat x,r,[v],vs,(Yh v).toList++(f1++f++f2),t1.trans hf,hI',rfl,⟨v,x1++vx++x2,f1++f++f2,rfl,?_,?_,rfl⟩,ZE hf.le _ _ hd2,hq,hL'.perm hperm,?_,λj c hj=>hb j c (Zgc he (λc h=>by cases h) j c hj)⟩
         ·rw[List.length_set,<-ex,hf.w];exact h2
         ·refine ZqX (by omega) (Xk _ _ _ (λd vs f _=>Ye hf.le.S hf.le.w e' d vs f (λg _=>hkeep g)) hr1) hrx ?_
          exact Xk _ _ _ (λd vs f _=>Ye hf.le.S hf.le.w e' d vs f (λg _=>hkeep g)) hr2
         ·have hT1:ZgV E H H' fp:=t4.later hf
          have hT2:ZgV E H H' f:=ZgV.after t1 hT;refine (hT1.append hT2).sub (λg hg=>?_);rw[ef];simp only[List.mem_append] at hg ⊢;rcases hg with hg | (hg | hg) | hg
          ·exact .inl (.inl (.inl hg))
          ·exact .inl (.inl (.inr hg))
          ·exact .inr hg
          ·exact .inl (.inr hg)
        ·exact hq.elim
       ·exact hq.elim
      ·exact hq.elim
     ·rename_i et' e' d n fp
      split at hq
      ·rename_i ht;subst ht
       split at hq
       ·rename_i het;subst het
        obtain ⟨hn,hq⟩:=hq;rw[YU,ZgC] at hq;obtain ⟨v',e1,⟨xs,x1,x2,f1,h2,h3,h4,ex,el,hr1,hr2,ef⟩,h5⟩:=hI.ent id _ he;have:=hd1.1.symm.trans e1;simp at this;subst this;have hnl:n.toNat=d.length:=by omega
        rw[hnl,List.take_length] at hr1;rw[hnl,List.drop_length] at hr2;have hr2:x2=[]:=hr2;subst hr2;rw[List.append_nil] at ex;subst ex;obtain ⟨t1,t2,t3,t4⟩:=took fp rfl h5 (λg hg=>hg);exact ⟨E,_,d,r,[v],vs,fp,t1,t2,rfl,⟨v,xs,f1,rfl,h2,hr1,ef⟩,hd2,hq,t3,t4,Zgc he (λc h=>by cases h)⟩
       ·exact hq.elim
      ·exact hq.elim
     ·exact hq.elim
    ·exact hk.elim
  ·exact hk.elim
 | .mp kt vt,cs,E,H,hI,vs,hd,gs,hL,K,hk=>by
  simp only[QU] at hk;split at hk
  ·rename_i s r
   match vs,hd with
   | [],hd=>simp[ZT] at hd
   | v::vs,hd =>
    simp only[ZT] at hd;obtain ⟨hd1,hd2⟩:=hd;split at hk
    ·rename_i id
     obtain ⟨en,he,hq⟩:=Yy H hk;clear hk;simp only[den] at hd1;split at hq
     ·rename_i k' v' d
      split at hq
      ·rename_i ht;subst ht
       split at hq
       ·rename_i het;subst het
        rw[YU] at hq;have hq:K d r (H.set id .gone):=hq;obtain ⟨b,es,clk,e1,h2,h3⟩:=hI.ent id _ he;have:=hd1.1.symm.trans e1;simp at this;subst this;exact ⟨E,_,d,r,[.map (some b)],vs,[b],Frz.one he rfl hd1.1 rfl (Env.le.refl E) (λb hb=>.inl hb),hI.drop id,rfl,⟨b,es,clk,rfl,rfl,h2,h3⟩,hd2,hq,
         hL.take hI he rfl hd1.1 (by simp) (λg hg=>by simp at hg;subst hg;rfl),λg hg=>⟨id,_,_,he,rfl,hd1.1,by simp at hg;subst hg;rfl,Zr2 he⟩,Zgc he (λc h=>by cases h)⟩
       ·exact hq.elim
      ·exact hq.elim
     ·exact hq.elim
    ·exact hk.elim
  ·exact hk.elim
 | .pair a b,cs,E,H,hI,vs,hd,gs,hL,K,hk=>by
  simp only[QU] at hk;obtain ⟨E1,H1,x,r,v1,v2,f1,hf1,hI1,e1,hr1,hd1,hk,hL1,hT1,hb1⟩:=ZaM a cs hI hd hL hk;obtain ⟨E2,H2,y,r',v3,v4,f2,hf2,hI2,e2,hr2,hd2,hk,hL2,hT2,hb2⟩:=ZaM b r hI1 hd1 hL1 hk;refine ⟨E2,H2,(x,y),r',v1++v3,v4,f1++f2,hf1.trans hf2,hI2,by rw[e1,e2,List.append_assoc],⟨v1,v3,f1,f2,rfl,rfl,?_,hr2⟩,hd2,hk,?_,(hT1.later hf2).append (ZgV.after hf1 hT2),λi c h=>hb2 i c (hb1 i c h)⟩
  ·exact Ye hf2.le.S hf2.le.w a _ _ _ (λg _=>by rw[hf2.w]) hr1
  ·refine hL2.perm ?_
   rw[<-List.append_assoc];exact List.perm_append_comm.append_right gs
def closeAll (e:Dp) (cs:List SV) (H:List Entry) (K:e.ty.den->List Entry->Prop):Prop:=QU e cs H λx rest H1=>match rest with
 | []=>K x H1
 | _=>False
theorem Qi {B:Base} {e:Dp} {cs:List SV} {E:Env} {H:List Entry} (hI:Inv B E H) {vs:List Value} (hd:ZT E cs vs) {gs:List Nat} (hL:Loose B E H gs) {K:e.ty.den->List Entry->Prop} (hk:closeAll e cs H K) :
  ∃ E' H' x f,Frz E H E' H'/\Inv B E' H'/\Zfj E'.S E'.w e x vs f/\K x H'/\Loose B E' H' (f++gs)/\ZgV E H H' f/\∀ (i:Nat) (c:List SV),H[i]?=some (.box c)->H'[i]?=some (.box c):=by
 obtain ⟨E',H',x,rest,v1,v2,f,h1,h2,h3,h4,h5,hk,h7,h8,h9⟩:=ZaM e cs hI hd hL hk;split at hk
 ·have hv2:v2=[]:=by cases v2 with
   | nil=>rfl
   | cons=>simp[ZT] at h5
  subst hv2;rw[List.append_nil] at h3;subst h3;exact ⟨E',H',x,f,h1,h2,h4,hk,h7,h8,h9⟩
 ·exact hk.elim
end Go.Sx
