/-
  One operation that is no call of a Go function.
-/
import Derived.Test.YtgjjlgodlhhdoaaGreatDoorSxMap
namespace Go.Sx
set_option linter.unusedVariables false
set_option linter.unusedSimpArgs false
section
variable {P:Program}
def Zqx (regs:List SV):List Operand->(List SV->Prop)->Prop
 | [],K=>K []
 | x::r,K=>Vh regs x λs=>Zqx regs r λl=>K (s::l)
theorem ZhJ {E:Env} {regs:List SV} {a:Act} (hd:ZT E regs a.tmps.toList):∀ (xs:List Operand) {K:List SV->Prop},Zqx regs xs K->∃ l,ZT E l (xs.map a.eval)/\K l
 | [],K,h=>⟨[],trivial,h⟩
 | x::r,K,h=>by
  obtain ⟨s,hs,h⟩:=Yb hd h;obtain ⟨l,hl,h⟩:=ZhJ hd r h;exact ⟨s::l,⟨hs,hl⟩,h⟩
def SV.ZvK:SV->Bool
 | .ptr _ _=>true
 | .oep _ _ _ _=>true
 | .fptr _=>true
 | .fn _ _=>true
 | _=>false
theorem ZoQ {E:Env} {s:SV} {v:Value} (h:den E s v) (hp:s.ZvK=true) :
  (∃ a,v=.pointer (some a))\/∃ f cs,v=.func (.func f) #[] cs:=by
 cases s<;>simp[SV.ZvK] at hp<;>simp only[den] at h
 case ptr=>obtain ⟨b,_,e⟩:=h;exact .inl ⟨_,e⟩
 case oep=>obtain ⟨b,bo,n,c,_,e⟩:=h;exact .inl ⟨_,e⟩
 case fptr=>obtain ⟨p,vs,e,_⟩:=h;exact .inl ⟨_,e⟩
 case fn=>obtain ⟨vs,e,_⟩:=h;exact .inr ⟨_,_,e⟩
def ZrK (s:SV) (K:SV->Prop):Prop :=
 match s with
 | .nptr t d=>∃ x,d=some x/\Qq t x λcs=>K (.fptr cs)
 | s=>K s
theorem ZrL {E:Env} {s:SV} {v:Value} (hs:den E s v) {K:SV->Prop} (hk:ZrK s K):∃ s',den E s' v/\K s':=by
 unfold ZrK at hk;split at hk
 ·rename_i t d
  obtain ⟨x,rfl,hk⟩:=hk;rw[Xr] at hk;refine ⟨_,?_,hk⟩;simp only[den] at hs ⊢;rcases hs with ⟨e,_⟩ | ⟨x',p,xs,e,e2,hp,hS,hc,hr⟩
  ·cases e
  ·injection e with e;subst e
   simp at e2;subst e2;exact ⟨p,xs,rfl,hp,hS,hc,Y0 t _ _ hr⟩
 ·exact ⟨s,hs,hk⟩
def Zvo (Δ:Tab) (op:BinOp) (T:TypeId) (sx sy:SV) (K:SV->Prop):Prop :=
 match sx,sy with
 | .agg xs,.agg ys=>Zbq Δ T λti=>eqK op ti (.agg xs) (.agg ys) K
 | .bool x,sy=>Zbq Δ T λti=>eqK op ti (.bool x) sy K
 | .blit x,sy=>Zbq Δ T λti=>eqK op ti (.blit x) sy K
 | sx,.nilp=>Zbq Δ T λti=>if Zg2 ti.kind=true then ZxN op ti sx K else False
 | sx,.nsl=>Zbq Δ T λti=>if Znx ti.kind=true then ZxN op ti sx K else False
 | sx,sy=>Zya op sx sy K
theorem Zto {Δ:Tab} (hΔ:Δ.ok P) {E:Env} {op:BinOp} {T:TypeId} {x y:SV} {K:SV->Prop} (h:Zvo Δ op T x y K) {u v:Value} (hu:den E x u) (hv:den E y v) (ox oy:Operand) :
  ∃ r s,(∀ w,((do eqGuard op T ox oy u v;binOp op T u v:Sem Value)).run P w=.ok r w)/\den E s r/\K s:=by
 unfold Zvo at h;split at h
 ·obtain ⟨ti,ht,h⟩:=YV Δ hΔ h;exact ZrQ ht h hu hv ox oy
 ·obtain ⟨ti,ht,h⟩:=YV Δ hΔ h;exact ZrQ ht h hu hv ox oy
 ·obtain ⟨ti,ht,h⟩:=YV Δ hΔ h;exact ZrQ ht h hu hv ox oy
 ·obtain ⟨ti,ht,h⟩:=YV Δ hΔ h
  split at h
  ·rename_i hq
   exact Zsi ht (.inl rfl) h ⟨λ_=>rfl,λhs=>by cases hk:ti.kind<;>rw[hk] at hq hs<;>simp[Zg2,Znx] at hq hs⟩ hu hv ox oy
  ·exact h.elim
 ·obtain ⟨ti,ht,h⟩:=YV Δ hΔ h
  split at h
  ·rename_i hq
   exact Zsi ht (.inr rfl) h ⟨λhs=>by cases hk:ti.kind<;>rw[hk] at hq hs<;>simp[Zg2,Znx] at hq hs,λ_=>rfl⟩ hu hv ox oy
  ·exact h.elim
 ·exact Zvp h hu hv T ox oy
def opK (Δ:Tab) (regs:List SV) (H:List Entry) (op:Op) (K:SV->List Entry->Prop):Prop :=
 match op with
 | .move x=>Vh regs x λs=>K s H
 | .assign x=>Vh regs x λs=>K s H
 | .pick c x y=>Vh regs c λs=>match s with
  | .blit true=>Vh regs x λs=>K s H
  | .blit false=>Vh regs y λs=>K s H
  | .bool p=>(p=true->Vh regs x λs=>K s H)/\(p=false->Vh regs y λs=>K s H)
  | _=>False
 | .alloc T=>Zbq Δ T λti=>ZuQ ti H K
 | .box _ x=>Vh regs x λs=>Zyc s H K
 | .build T ps=>Zbq Δ T λti=>Zp9 regs ps.toList λl=>Zrq ti l λs=>K s H
 | .buildSlice T n ps=>Zbq Δ T λti=>Zp9 regs ps.toList λl=>Zg8 ti n l H K
 | .load T x=>Zbq Δ T λti=>Vh regs x λs=>ZvP ti s H K
 | .store T x y=>Zbq Δ T λti=>Vh regs x λsa=>Vh regs y λsx=>ZsV ti sa sx H λH'=>K (.tup []) H'
 | .nilCheck x=>Vh regs x λs=>ZrK s λs'=>if s'.ZvK=true then K s' H else False
 | .binOp op T x y _=>Vh regs x λsx=>Vh regs y λsy=>Zvo Δ op T sx sy λs=>K s H
 | .unOp op _ x=>Vh regs x λsx=>unK op sx λs=>K s H
 | .convert S T x=>Zbq Δ S λts=>Zbq Δ T λtd=>Vh regs x λs=>match ts.kind,td.kind with
  | .sl,.str=>Zbq Δ ts.elem λte=>ZrB te s H λr=>K r H
  | _,_=>Zvx ts td s H λr=>K r H
 | .makeFunc (.func f) first caps=>if first.size=0 then Zqx regs caps.toList λl=>K (.fn f l) H else False
 | .makeSlice T l c=>Zbq Δ T λti=>Vh regs l λsl=>Vh regs c λsc=>ZvQ ti sl sc H K
 | .slice T x lo hi none=>Zbq Δ T λti=>Vh regs x λs=>ZsQ ti regs s lo hi H K
 | .fieldAddr T x f=>Zbq Δ T λti=>Vh regs x λs=>Zim ti s f λr=>K r H
 | .field T x f=>Zbq Δ T λti=>Vh regs x λs=>ZrS ti s f λr=>K r H
 | .indexAddr T x i=>Zbq Δ T λti=>Vh regs x λs=>Vh regs i λsi=>ZgF ti s si i H λr=>K r H
 | .index T x i=>Zbq Δ T λti=>Vh regs x λs=>Vh regs i λsi=>ZsX ti s si λr=>K r H
 | .extract x i=>Vh regs x λs=>ZzG s i λr=>K r H
 | .makeMap T none=>Zbq Δ T λti=>ZmI ti H K
 | .lookup T x i ok=>Zbq Δ T λti=>Vh regs x λsx=>Vh regs i λsi=>ZoK Δ ti sx si ok H λr=>K r H
 | .mapUpdate T x i y=>Zbq Δ T λti=>Vh regs x λsx=>Vh regs i λsi=>Vh regs y λsy=>Zo6 Δ ti sx si sy H λH'=>K (.tup []) H'
 | .call c=>match c.callee,c.args.toList,c.argTypes.toList with
  | .builtin .len,[x],[T]=>Zbq Δ T λti=>Vh regs x λs=>Zzm ti s H λr=>K r H
  | .builtin .append,[x,y],[T,T']=>if T=T' then Zbq Δ T λti=>Vh regs x λsx=>Vh regs y λsy=>Zon ti sx sy H K else False
  | .builtin .min,x::r,_=>Vh regs x λs=>Zqx regs r λl=>ZwS false s l λr=>K r H
  | .builtin .max,x::r,_=>Vh regs x λs=>Zqx regs r λl=>ZwS true s l λr=>K r H
  | _,_,_=>False
 | _=>False
def J8:Op->Bool
 | .move _=>true
 | .assign _=>true
 | .pick _ _ _=>true
 | .build _ _=>true
 | .load _ _=>true
 | .nilCheck _=>true
 | .binOp _ _ _ _ _=>true
 | .unOp _ _ _=>true
 | .fieldAddr _ _ _=>true
 | .field _ _ _=>true
 | .indexAddr _ _ _=>true
 | .index _ _ _=>true
 | .extract _ _=>true
 | .makeFunc _ _ _=>true
 | .call c=>match c.callee with
  | .builtin .len=>true
  | .builtin .min=>true
  | .builtin .max=>true
  | _=>false
 | _=>false
def isLoad:Op->Bool
 | .load _ _=>true
 | _=>false
def ZhQ:Op->Bool
 | .alloc _=>true
 | .box _ _=>true
 | .buildSlice _ _ _=>true
 | .makeSlice _ _ _=>true
 | .slice _ _ _ _ _=>true
 | .convert _ _ _=>true
 | .makeMap _ _=>true
 | _=>false
def appArg:Op->Option Operand
 | .call ⟨.builtin .append,args,_⟩=>args.toList.head?
 | .store _ x _=>some x
 | _=>none
def Ran (P:Program) (B:Base) (E:Env) (o:Oper) (a:Act) (K:SV->List Entry->Prop):Prop :=
 ∃ nx v E' H' s,(execOp a.eval o).run P E.w=.ok nx E'.w/\(nx=.value v\/nx=.skip/\v=undef)/\Inv B E' H'/\E.le E'/\den E' s v/\K s H'/\
  (J8 o.op=true->nx=.value v/\E'.w=E.w/\∀ w',(isLoad o.op=true->Zmd E.w w')->(execOp a.eval o).run P w'=.ok (.value v) w')/\((J8 o.op||ZhQ o.op)=true->Grow E.w E'.w)/\∀ x,appArg o.op=some x->E.w.grownBy E'.w (Yh (a.eval x))
theorem ZoF {w w':World} {v:Value} (h:w.grownBy w' v.ownBlock):w.grownBy w' (Yh v):=⟨h.os,h.tape,h.output,h.size,λk hk hne=>h.block k hk (λe=>hne (Zrp v k e.symm).symm)⟩
theorem ZkJ {op:Op} {p:Operand->Prop} (ha:appArg op=none):∀ x,appArg op=some x->p x:=λx e=>by rw[ha] at e;cases e
theorem Zsz {B:Base} {E:Env} {H:List Entry} (hI:Inv B E H) {o:Oper} {a:Act} {K:SV->List Entry->Prop} {x:Sem Value} (he:execOp a.eval o=(do pure (.value (<-x)):Sem Next)) (hl:isLoad o.op=true)
  (h:∃ u s E' H',E'.w=E.w/\Ztm P E.w x u/\Inv B E' H'/\E.le E'/\den E' s u/\K s H') (ha:appArg o.op=none:=by rfl):Ran P B E o a K:=by
 obtain ⟨u,s,E',H',hw,h1,h2,h2',h3,h3'⟩:=h;have h4:∀ w',Zmd E.w w'->(execOp a.eval o).run P w'=.ok (.value u) w':=λw' hst=>by rw[he,Sem.run_bind,h1 w' hst];rfl
 exact ⟨_,u,E',H',s,by rw[hw];exact h4 _ (Zmd.refl _),.inl rfl,h2,h2',h3,h3',λ_=>⟨rfl,hw,λw' h=>h4 w' (h hl)⟩,λ_=>by rw[hw];exact Grow.refl _,ZkJ ha⟩
theorem Qk {B:Base} {E:Env} {H:List Entry} (hI:Inv B E H) {o:Oper} {a:Act} {K:SV->List Entry->Prop} {x:Sem Value} (he:execOp a.eval o=(do pure (.value (<-x)):Sem Next))
  (h:∃ u s,Zlb P x u/\den E s u/\K s H) (ha:appArg o.op=none:=by rfl):Ran P B E o a K:=by
 obtain ⟨u,s,h1,h2,h3⟩:=h;have h4:∀ w',(execOp a.eval o).run P w'=.ok (.value u) w':=λw'=>by rw[he,Sem.run_bind,h1 w'];rfl
 exact ⟨_,u,E,H,s,h4 _,.inl rfl,hI,Env.le.refl E,h2,h3,λ_=>⟨rfl,rfl,λw' _=>h4 w'⟩,λ_=>Grow.refl _,ZkJ ha⟩
theorem ZfE {B:Base} {E:Env} {H:List Entry} (hI:Inv B E H) {o:Oper} {a:Act} {K:SV->List Entry->Prop} {u:Value} {s:SV} (he:execOp a.eval o=(pure (.value u):Sem Next))
  (h2:den E s u) (h3:K s H) (ha:appArg o.op=none:=by rfl):Ran P B E o a K :=
 ⟨_,u,E,H,s,by rw[he];rfl,.inl rfl,hI,Env.le.refl E,h2,h3,λ_=>⟨rfl,rfl,λw' _=>by rw[he];rfl⟩,λ_=>Grow.refl _,ZkJ ha⟩
theorem Zb4 {B:Base} {E:Env} {o:Oper} {a:Act} {K:SV->List Entry->Prop} {x:Sem Value} (he:execOp a.eval o=(do pure (.value (<-x)):Sem Next)) (hl:J8 o.op=false)
  (h:∃ u E' H' s,x.run P E.w=.ok u E'.w/\Inv B E' H'/\E.le E'/\den E' s u/\K s H'/\Grow E.w E'.w) (ha:appArg o.op=none:=by rfl):Ran P B E o a K:=by
 obtain ⟨u,E',H',s,h1,h2,h3,h4,h5,h6⟩:=h;exact ⟨_,u,E',H',s,by rw[he,Sem.run_bind,h1];rfl,.inl rfl,h2,h3,h4,h5,λe=>(by rw[hl] at e;cases e),λ_=>h6,ZkJ ha⟩
theorem Zws {B:Base} {E:Env} {o:Oper} {a:Act} {K:SV->List Entry->Prop} {x:Sem Value} (he:execOp a.eval o=(do pure (.value (<-x)):Sem Next)) (hl:(J8 o.op||ZhQ o.op)=false)
  (h:∃ u E' H' s,x.run P E.w=.ok u E'.w/\Inv B E' H'/\E.le E'/\den E' s u/\K s H') (ha:appArg o.op=none:=by rfl):Ran P B E o a K:=by
 obtain ⟨u,E',H',s,h1,h2,h3,h4,h5⟩:=h;have hl':J8 o.op=false:=by cases h:J8 o.op<;>simp[h] at hl ⊢
 exact ⟨_,u,E',H',s,by rw[he,Sem.run_bind,h1];rfl,.inl rfl,h2,h3,h4,h5,λe=>(by rw[hl'] at e;cases e),λe=>(by rw[hl] at e;cases e),ZkJ ha⟩
theorem ZvW {B:Base} {E:Env} {o:Oper} {a:Act} {K:SV->List Entry->Prop} {x:Sem Value} {r:Operand} (he:execOp a.eval o=(do pure (.value (<-x)):Sem Next)) (hl:(J8 o.op||ZhQ o.op)=false) (ha:appArg o.op=some r)
  (h:∃ u E' H' s,x.run P E.w=.ok u E'.w/\Inv B E' H'/\E.le E'/\den E' s u/\K s H'/\E.w.grownBy E'.w (a.eval r).ownBlock):Ran P B E o a K:=by
 obtain ⟨u,E',H',s,h1,h2,h3,h4,h5,h6⟩:=h;have hl':J8 o.op=false:=by cases h:J8 o.op<;>simp[h] at hl ⊢
 exact ⟨_,u,E',H',s,by rw[he,Sem.run_bind,h1];rfl,.inl rfl,h2,h3,h4,h5,λe=>(by rw[hl'] at e;cases e),λe=>(by rw[hl] at e;cases e),λx hx=>by rw[ha] at hx;injection hx with hx;subst hx;exact ZoF h6⟩
theorem ZnM (a:Act) (ps:Array (Nat×Operand)):(ps.map λx=>(x.1,a.eval x.2)).toList=ps.toList.map λx=>(x.1,a.eval x.2):=by simp
theorem Zsm {Δ:Tab} (hΔ:Δ.ok P) {B:Base} {E:Env} {H:List Entry} (hI:Inv B E H) {regs:List SV} {a:Act} (hd:ZT E regs a.tmps.toList) {o:Oper} {K:SV->List Entry->Prop}
  (h:opK Δ regs H o.op K):Ran P B E o a K:=by
 obtain ⟨dst,op,type,pos,after,guard⟩:=o;simp only at h;have val:∀ {x:Operand} (op':Op),(execOp a.eval ⟨dst,op',type,pos,after,guard⟩=pure (.value (a.eval x)))->(Vh regs x λs=>K s H)->appArg op'=none->Ran P B E ⟨dst,op',type,pos,after,guard⟩ a K:=by
  intro x op' he h ha;obtain ⟨s,hs,h⟩:=Yb hd h;exact ZfE hI he hs h ha
 unfold opK at h;split at h
 ·exact val _ rfl h rfl
 ·exact val _ rfl h rfl
 ·rename_i c x y
  obtain ⟨s,hs,h⟩:=Yb hd h;split at h
  ·simp only[den] at hs
   obtain ⟨s',hs',h⟩:=Yb hd h;exact ZfE hI (u:=a.eval x) (by simp[execOp,hs,asBool]) hs' h
  ·simp only[den] at hs
   obtain ⟨s',hs',h⟩:=Yb hd h;exact ZfE hI (u:=a.eval y) (by simp[execOp,hs,asBool]) hs' h
  ·rename_i p
   simp only[den] at hs;cases p
   ·obtain ⟨s',hs',h⟩:=Yb hd (h.2 rfl)
    exact ZfE hI (u:=a.eval y) (by simp[execOp,hs,asBool]) hs' h
   ·obtain ⟨s',hs',h⟩:=Yb hd (h.1 rfl)
    exact ZfE hI (u:=a.eval x) (by simp[execOp,hs,asBool]) hs' h
  ·exact h.elim
 ·obtain ⟨ti,ht,h⟩:=YV Δ hΔ h
  exact Zb4 rfl rfl (Zrl hI ht h)
 ·obtain ⟨s,hs,h⟩:=Yb hd h
  exact Zb4 rfl rfl (Zvq hI hs h)
 ·rename_i T ps
  obtain ⟨ti,ht,h⟩:=YV Δ hΔ h;obtain ⟨l,hl,h⟩:=ZkM hd _ h;exact Qk hI rfl (Zrr ht (by rw[ZnM];exact hl) h)
 ·rename_i T n ps
  obtain ⟨ti,ht,h⟩:=YV Δ hΔ h;obtain ⟨l,hl,h⟩:=ZkM hd _ h;exact Zb4 rfl rfl (Zld hI ht (by rw[ZnM];exact hl) h)
 ·obtain ⟨ti,ht,h⟩:=YV Δ hΔ h
  obtain ⟨s,hs,h⟩:=Yb hd h;exact Zsz hI rfl rfl (ZtT hI ht hs h)
 ·obtain ⟨ti,ht,h⟩:=YV Δ hΔ h
  obtain ⟨sa,hsa,h⟩:=Yb hd h;obtain ⟨sx,hsx,h⟩:=Yb hd h;obtain ⟨E',H',h1,h2,h3,h4,h5⟩:=ZsW hI ht hsa hsx h;exact ⟨.skip,undef,E',H',.tup [],by simp[execOp,h1],.inr ⟨rfl,rfl⟩,h2,h3,by simp only[den];exact ⟨[],rfl,trivial⟩,h4,λe=>(by cases e),λe=>(by cases e),λy hy=>by simp only[appArg] at hy;injection hy with hy;subst hy;exact h5⟩
 ·obtain ⟨s0,hs0,h⟩:=Yb hd h
  obtain ⟨s,hs,h⟩:=ZrL hs0 h;split at h
  ·rename_i hp
   rcases ZoQ hs hp with ⟨p,hv⟩ | ⟨f,cs,hv⟩
   ·exact ZfE hI (by simp[execOp,hv];rfl) (by rw[<-hv];exact hs) h
   ·exact ZfE hI (by simp[execOp,hv];rfl) (by rw[<-hv];exact hs) h
  ·exact h.elim
 ·obtain ⟨sx,hsx,h⟩:=Yb hd h
  obtain ⟨sy,hsy,h⟩:=Yb hd h;obtain ⟨r,s,h1,h2,h3⟩:=Zto (P:=P) hΔ h hsx hsy _ _;exact Qk hI rfl ⟨r,s,h1,h2,h3⟩
 ·obtain ⟨sx,hsx,h⟩:=Yb hd h
  obtain ⟨r,s,h1,h2,h3⟩:=Zxs (P:=P) h hsx;exact Qk hI rfl ⟨r,s,h1,h2,h3⟩
 ·obtain ⟨ts,hts,h⟩:=YV Δ hΔ h
  obtain ⟨td,htd,h⟩:=YV Δ hΔ h;obtain ⟨s,hs,h⟩:=Yb hd h;split at h
  ·rename_i hk1 hk2
   obtain ⟨te,hte,h⟩:=YV Δ hΔ h;obtain ⟨u,r,h1,h2,h3⟩:=ZrC (P:=P) hI hts hk1 htd hk2 hte hs h;exact Zb4 rfl rfl ⟨u,E,H,r,h1,hI,Env.le.refl E,h2,h3,Grow.refl _⟩
  ·obtain ⟨u,r,h1,h2,h3⟩:=Ztw (P:=P) hts htd hs h
   exact Qk hI rfl ⟨u,r,h1,h2,h3⟩
 ·rename_i f first caps
  split at h
  ·rename_i hf
   obtain ⟨caps⟩:=caps;obtain ⟨l,hl,h⟩:=ZhJ hd _ h;have hf':first=#[]:=Array.eq_empty_of_size_eq_zero hf;subst hf';refine Qk hI rfl ⟨_,_,λw=>rfl,?_,h⟩;simp only[den];exact ⟨_,by simp,hl⟩
  ·exact h.elim
 ·obtain ⟨ti,ht,h⟩:=YV Δ hΔ h
  obtain ⟨sl,hsl,h⟩:=Yb hd h;obtain ⟨sc,hsc,h⟩:=Yb hd h;exact Zb4 rfl rfl (ZtW hI ht hsl hsc h)
 ·obtain ⟨ti,ht,h⟩:=YV Δ hΔ h
  obtain ⟨s,hs,h⟩:=Yb hd h;exact Zb4 rfl rfl (ZsR hI hd ht hs h)
 ·obtain ⟨ti,ht,h⟩:=YV Δ hΔ h
  obtain ⟨s,hs,h⟩:=Yb hd h;exact Qk hI rfl (Zmq ht hs h)
 ·obtain ⟨ti,ht,h⟩:=YV Δ hΔ h
  obtain ⟨s,hs,h⟩:=Yb hd h;exact Qk hI rfl (ZrT ht hs h)
 ·rename_i T x i
  obtain ⟨ti,ht,h⟩:=YV Δ hΔ h;obtain ⟨s,hs,h⟩:=Yb hd h;cases i with
  | const v =>
   obtain ⟨si,hsi,h⟩:∃ si,(∀ j,Zii (.const v)=some j->∀ k i,si=.int k i->i=(j:Int))/\den E si v/\ZgF ti s si (.const v) H λr=>K r H:=by
    have h':=h;obtain ⟨si,hsi,h⟩:=Yb hd h;have hsi':den E si v:=hsi;refine ⟨si,λj hj k i hsi2=>?_,hsi',h⟩;subst hsi2;simp only[den] at hsi';subst hsi';simp only[Zii] at hj;split at hj
    ·simp at hj;subst hj;rfl
    ·cases hj
   exact Qk hI rfl (Zfy hI ht hs h.1 h.2 hsi)
  | tmp t =>
   obtain ⟨si,hsi,h⟩:=Yb hd h;exact Qk hI rfl (Zfy hI ht hs hsi h (λj hj=>by simp[Zii] at hj))
  | global g=>exact h.elim
  | func f =>
   obtain ⟨si,hsi,h⟩:=Yb hd h;exact Qk hI rfl (Zfy hI ht hs hsi h (λj hj=>by simp[Zii] at hj))
 ·obtain ⟨ti,ht,h⟩:=YV Δ hΔ h
  obtain ⟨s,hs,h⟩:=Yb hd h;obtain ⟨si,hsi,h⟩:=Yb hd h;obtain ⟨u,r,h1,h2,h3⟩:=ZsY (P:=P) ht hs hsi h;exact Qk hI rfl ⟨u,r,h1,h2,h3⟩
 ·obtain ⟨s,hs,h⟩:=Yb hd h
  obtain ⟨u,r,h1,h2,h3⟩:=Zwg (P:=P) hs h;exact Qk hI rfl ⟨u,r,h1,h2,h3⟩
 ·obtain ⟨ti,ht,h⟩:=YV Δ hΔ h
  exact Zb4 rfl rfl (ZoL hI ht h)
 ·obtain ⟨ti,ht,h⟩:=YV Δ hΔ h
  obtain ⟨sx,hsx,h⟩:=Yb hd h;obtain ⟨si,hsi,h⟩:=Yb hd h;obtain ⟨u,r,h1,h2,h3⟩:=ZqJ (P:=P) hΔ hI ht hsx hsi h;exact Zb4 rfl rfl ⟨u,E,H,r,h1,hI,Env.le.refl E,h2,h3,Grow.refl _⟩
 ·obtain ⟨ti,ht,h⟩:=YV Δ hΔ h
  obtain ⟨sx,hsx,h⟩:=Yb hd h;obtain ⟨si,hsi,h⟩:=Yb hd h;obtain ⟨sy,hsy,h⟩:=Yb hd h;obtain ⟨E',H',h1,h2,h3,h4⟩:=Zq6 (P:=P) hΔ hI ht hsx hsi hsy h;exact ⟨.skip,undef,E',H',.tup [],by simp[execOp,h1],.inr ⟨rfl,rfl⟩,h2,h3,by simp only[den];exact ⟨[],rfl,trivial⟩,h4,λe=>(by cases e),λe=>(by cases e),ZkJ rfl⟩
 ·rename_i c
  obtain ⟨callee,args,argTypes⟩:=c;obtain ⟨args⟩:=args;obtain ⟨argTypes⟩:=argTypes;simp only at h;split at h
  ·rename_i x T
   obtain ⟨ti,ht,h⟩:=YV Δ hΔ h;obtain ⟨s,hs,h⟩:=Yb hd h;obtain ⟨u,r,h1,h2,h3⟩:=ZvN (ty:=type) hI ht hs h;exact Qk hI (x:=Builtin.len_ #[T] type #[a.eval x]) (by simp only[execOp,resolve,invoke,builtin,pure_bind,List.map_toArray,List.map_cons,List.map_nil]) ⟨u,r,h1,h2,h3⟩
  ·rename_i x y T T'
   split at h
   ·rename_i hTT;subst hTT
    obtain ⟨ti,ht,h⟩:=YV Δ hΔ h;obtain ⟨sx,hsx,h⟩:=Yb hd h;obtain ⟨sy,hsy,h⟩:=Yb hd h;exact ZvW (x:=Builtin.append_ #[T,T] type #[a.eval x,a.eval y]) (by simp only[execOp,resolve,invoke,builtin,pure_bind,List.map_toArray,List.map_cons,List.map_nil]) rfl rfl (Zqm (ty:=type) hI ht hsx hsy h)
   ·exact h.elim
  ·rename_i x r
   obtain ⟨s,hs,h⟩:=Yb hd h;obtain ⟨l,hl,h⟩:=ZhJ hd _ h;obtain ⟨u,r',h1,h2,h3⟩:=ZoM (P:=P) (mx:=false) l s _ _ hs hl h;exact Qk hI (x:=Builtin.min_ argTypes.toArray type ((x::r).toArray.map a.eval)) (by simp only[execOp,resolve,invoke,builtin,pure_bind]) ⟨u,r',λw=>by simpa[Builtin.min_] using h1 w,h2,h3⟩
  ·rename_i x r
   obtain ⟨s,hs,h⟩:=Yb hd h;obtain ⟨l,hl,h⟩:=ZhJ hd _ h;obtain ⟨u,r',h1,h2,h3⟩:=ZoM (P:=P) (mx:=true) l s _ _ hs hl h;exact Qk hI (x:=Builtin.max_ argTypes.toArray type ((x::r).toArray.map a.eval)) (by simp only[execOp,resolve,invoke,builtin,pure_bind]) ⟨u,r',λw=>by simpa[Builtin.max_] using h1 w,h2,h3⟩
  ·exact h.elim
 ·exact h.elim
end
end Go.Sx
