/-
  One operation that is no call of a Go function.
-/
import Derived.Test.YtnnbgbgapogckaaGreatDoorSxMap
namespace Go.Sx
set_option linter.unusedVariables false
set_option linter.unusedSimpArgs false
section
variable {P:Program}
def Zh1 (regs:List SV):List Operand→(List SV→Prop)→Prop
 | [],K=>K []
 | x::r,K=>Xe regs x fun s=>Zh1 regs r fun l=>K (s::l)
theorem Zbu {E:Env} {regs:List SV} {a:Act} (hd:Zy E regs a.tmps.toList):∀ (xs:List Operand) {K:List SV→Prop},Zh1 regs xs K→∃ l,Zy E l (xs.map a.eval)∧K l
 | [],K,h=>⟨[],trivial,h⟩
 | x::r,K,h=>by
  obtain ⟨s,hs,h⟩:=ZE hd h
  obtain ⟨l,hl,h⟩:=Zbu hd r h
  exact ⟨s::l,⟨hs,hl⟩,h⟩
def SV.ZlS:SV→Bool
 | .ptr _ _=>true
 | .oep _ _ _ _=>true
 | .fptr _=>true
 | .fn _ _=>true
 | _=>false
theorem Zg1 {E:Env} {s:SV} {v:Value} (h:den E s v) (hp:s.ZlS=true) :
  (∃ a,v=.pointer (some a))∨∃ f cs,v=.func (.func f) #[] cs:=by
 cases s<;>simp [SV.ZlS] at hp<;>simp only [den] at h
 case ptr=>obtain ⟨b,_,e⟩:=h;exact .inl ⟨_,e⟩
 case oep=>obtain ⟨b,bo,n,c,_,e⟩:=h;exact .inl ⟨_,e⟩
 case fptr=>obtain ⟨p,vs,e,_⟩:=h;exact .inl ⟨_,e⟩
 case fn=>obtain ⟨vs,e,_⟩:=h;exact .inr ⟨_,_,e⟩
def ZiY (s:SV) (K:SV→Prop):Prop :=
 match s with
 | .nptr t d=>∃ x,d=some x∧YK t x fun cs=>K (.fptr cs)
 | s=>K s
theorem ZiZ {E:Env} {s:SV} {v:Value} (hs:den E s v) {K:SV→Prop} (hk:ZiY s K):∃ s',den E s' v∧K s':=by
 unfold ZiY at hk
 split at hk
 ·rename_i t d
  obtain ⟨x,rfl,hk⟩:=hk
  rw [Z6] at hk
  refine ⟨_,?_,hk⟩
  simp only [den] at hs ⊢
  rcases hs with ⟨e,_⟩ | ⟨x',p,xs,e,e2,hp,hS,hc,hr⟩
  ·cases e
  ·injection e with e;subst e
   simp at e2;subst e2
   exact ⟨p,xs,rfl,hp,hS,hc,ZV t _ _ hr⟩
 ·exact ⟨s,hs,hk⟩
def ZlE (Δ:Tab) (op:BinOp) (T:TypeId) (sx sy:SV) (K:SV→Prop):Prop :=
 match sx,sy with
 | .agg xs,.agg ys=>Q0 Δ T fun ti=>eqK op ti (.agg xs) (.agg ys) K
 | .bool x,sy=>Q0 Δ T fun ti=>eqK op ti (.bool x) sy K
 | .blit x,sy=>Q0 Δ T fun ti=>eqK op ti (.blit x) sy K
 | sx,.nilp=>Q0 Δ T fun ti=>if Za1 ti.kind=true then Znm op ti sx K else False
 | sx,.nsl=>Q0 Δ T fun ti=>if Zf5 ti.kind=true then Znm op ti sx K else False
 | sx,sy=>ZnL op sx sy K
theorem Zkg {Δ:Tab} (hΔ:Δ.ok P) {E:Env} {op:BinOp} {T:TypeId} {x y:SV} {K:SV→Prop} (h:ZlE Δ op T x y K) {u v:Value} (hu:den E x u) (hv:den E y v) (ox oy:Operand) :
  ∃ r s,(∀ w,((do eqGuard op T ox oy u v;binOp op T u v:Sem Value)).run P w=.ok r w)∧den E s r∧K s:=by
 unfold ZlE at h
 split at h
 ·obtain ⟨ti,ht,h⟩:=ZU Δ hΔ h;exact Zi0 ht h hu hv ox oy
 ·obtain ⟨ti,ht,h⟩:=ZU Δ hΔ h;exact Zi0 ht h hu hv ox oy
 ·obtain ⟨ti,ht,h⟩:=ZU Δ hΔ h;exact Zi0 ht h hu hv ox oy
 ·obtain ⟨ti,ht,h⟩:=ZU Δ hΔ h
  split at h
  ·rename_i hq
   exact Zjt ht (.inl rfl) h ⟨fun _=>rfl,fun hs=>by cases hk:ti.kind<;>rw [hk] at hq hs<;>simp [Za1,Zf5] at hq hs⟩ hu hv ox oy
  ·exact h.elim
 ·obtain ⟨ti,ht,h⟩:=ZU Δ hΔ h
  split at h
  ·rename_i hq
   exact Zjt ht (.inr rfl) h ⟨fun hs=>by cases hk:ti.kind<;>rw [hk] at hq hs<;>simp [Za1,Zf5] at hq hs,fun _=>rfl⟩ hu hv ox oy
  ·exact h.elim
 ·exact ZlF h hu hv T ox oy
def opK (Δ:Tab) (regs:List SV) (H:List Entry) (op:Op) (K:SV→List Entry→Prop):Prop :=
 match op with
 | .move x=>Xe regs x fun s=>K s H
 | .assign x=>Xe regs x fun s=>K s H
 | .pick c x y=>Xe regs c fun s=>match s with
  | .blit true=>Xe regs x fun s=>K s H
  | .blit false=>Xe regs y fun s=>K s H
  | .bool p=>(p=true→Xe regs x fun s=>K s H)∧(p=false→Xe regs y fun s=>K s H)
  | _=>False
 | .alloc T=>Q0 Δ T fun ti=>Zlq ti H K
 | .box _ x=>Xe regs x fun s=>ZnN s H K
 | .build T ps=>Q0 Δ T fun ti=>ZhO regs ps.toList fun l=>ZiE ti l fun s=>K s H
 | .buildSlice T n ps=>Q0 Δ T fun ti=>ZhO regs ps.toList fun l=>Za4 ti n l H K
 | .load T x=>Q0 Δ T fun ti=>Xe regs x fun s=>ZlW ti s H K
 | .store T x y=>Q0 Δ T fun ti=>Xe regs x fun sa=>Xe regs y fun sx=>ZjT ti sa sx H fun H'=>K (.tup []) H'
 | .nilCheck x=>Xe regs x fun s=>ZiY s fun s'=>if s'.ZlS=true then K s' H else False
 | .binOp op T x y _=>Xe regs x fun sx=>Xe regs y fun sy=>ZlE Δ op T sx sy fun s=>K s H
 | .unOp op _ x=>Xe regs x fun sx=>unK op sx fun s=>K s H
 | .convert S T x=>Q0 Δ S fun ts=>Q0 Δ T fun td=>Xe regs x fun s=>match ts.kind,td.kind with
  | .sl,.str=>Q0 Δ ts.elem fun te=>ZiQ te s H fun r=>K r H
  | _,_=>ZlJ ts td s H fun r=>K r H
 | .makeFunc (.func f) first caps=>if first.size=0 then Zh1 regs caps.toList fun l=>K (.fn f l) H else False
 | .makeSlice T l c=>Q0 Δ T fun ti=>Xe regs l fun sl=>Xe regs c fun sc=>ZlX ti sl sc H K
 | .slice T x lo hi none=>Q0 Δ T fun ti=>Xe regs x fun s=>ZjN ti regs s lo hi H K
 | .fieldAddr T x f=>Q0 Δ T fun ti=>Xe regs x fun s=>Zb5 ti s f fun r=>K r H
 | .field T x f=>Q0 Δ T fun ti=>Xe regs x fun s=>Zi9 ti s f fun r=>K r H
 | .indexAddr T x i=>Q0 Δ T fun ti=>Xe regs x fun s=>Xe regs i fun si=>ZaM ti s si i H fun r=>K r H
 | .index T x i=>Q0 Δ T fun ti=>Xe regs x fun s=>Xe regs i fun si=>ZjV ti s si fun r=>K r H
 | .extract x i=>Xe regs x fun s=>Zol s i fun r=>K r H
 | .makeMap T none=>Q0 Δ T fun ti=>Zft ti H K
 | .lookup T x i ok=>Q0 Δ T fun ti=>Xe regs x fun sx=>Xe regs i fun si=>ZgV Δ ti sx si ok H fun r=>K r H
 | .mapUpdate T x i y=>Q0 Δ T fun ti=>Xe regs x fun sx=>Xe regs i fun si=>Xe regs y fun sy=>Zhc Δ ti sx si sy H fun H'=>K (.tup []) H'
 | .call c=>match c.callee,c.args.toList,c.argTypes.toList with
  | .builtin .len,[x],[T]=>Q0 Δ T fun ti=>Xe regs x fun s=>ZnY ti s H fun r=>K r H
  | .builtin .append,[x,y],[T,T']=>if T=T' then Q0 Δ T fun ti=>Xe regs x fun sx=>Xe regs y fun sy=>ZgE ti sx sy H K else False
  | .builtin .min,x::r,_=>Xe regs x fun s=>Zh1 regs r fun l=>ZmO false s l fun r=>K r H
  | .builtin .max,x::r,_=>Xe regs x fun s=>Zh1 regs r fun l=>ZmO true s l fun r=>K r H
  | _,_,_=>False
 | _=>False
def Ql:Op→Bool
 | .move _=>true
 | .assign _=>true
 | .pick _ _ _=>true
 | .build _ _=>true
 | .load _ _=>true
 | .nilCheck _=>true
 | .binOp _ _ _ _ _=>true
 | .unOp _ _ _=>true
 | .fieldAddr _ _ _=>true
 | .field _ _ _=>true
 | .indexAddr _ _ _=>true
 | .index _ _ _=>true
 | .extract _ _=>true
 | .makeFunc _ _ _=>true
 | .call c=>match c.callee with
  | .builtin .len=>true
  | .builtin .min=>true
  | .builtin .max=>true
  | _=>false
 | _=>false
def isLoad:Op→Bool
 | .load _ _=>true
 | _=>false
def Zbz:Op→Bool
 | .alloc _=>true
 | .box _ _=>true
 | .buildSlice _ _ _=>true
 | .makeSlice _ _ _=>true
 | .slice _ _ _ _ _=>true
 | .convert _ _ _=>true
 | .makeMap _ _=>true
 | _=>false
def appArg:Op→Option Operand
 | .call ⟨.builtin .append,args,_⟩=>args.toList.head?
 | .store _ x _=>some x
 | _=>none
def Ran (P:Program) (B:Base) (E:Env) (o:Oper) (a:Act) (K:SV→List Entry→Prop):Prop :=
 ∃ nx v E' H' s,(execOp a.eval o).run P E.w=.ok nx E'.w∧(nx=.value v∨nx=.skip∧v=undef)∧Inv B E' H'∧E.le E'∧den E' s v∧K s H'∧
  (Ql o.op=true→nx=.value v∧E'.w=E.w∧∀ w',(isLoad o.op=true→Ze3 E.w w')→(execOp a.eval o).run P w'=.ok (.value v) w')∧((Ql o.op||Zbz o.op)=true→Grow E.w E'.w)∧∀ x,appArg o.op=some x→E.w.grownBy E'.w (ZH (a.eval x))
theorem ZgQ {w w':World} {v:Value} (h:w.grownBy w' v.ownBlock):w.grownBy w' (ZH v):=⟨h.os,h.tape,h.output,h.size,fun k hk hne=>h.block k hk (fun e=>hne (ZiD v k e.symm).symm)⟩
theorem Zdv {op:Op} {p:Operand→Prop} (ha:appArg op=none):∀ x,appArg op=some x→p x:=fun x e=>by rw [ha] at e;cases e
theorem ZjD {B:Base} {E:Env} {H:List Entry} (hI:Inv B E H) {o:Oper} {a:Act} {K:SV→List Entry→Prop} {x:Sem Value} (he:execOp a.eval o=(do pure (.value (←x)):Sem Next)) (hl:isLoad o.op=true)
  (h:∃ u s E' H',E'.w=E.w∧Zkc P E.w x u∧Inv B E' H'∧E.le E'∧den E' s u∧K s H') (ha:appArg o.op=none:=by rfl):Ran P B E o a K:=by
 obtain ⟨u,s,E',H',hw,h1,h2,h2',h3,h3'⟩:=h
 have h4:∀ w',Ze3 E.w w'→(execOp a.eval o).run P w'=.ok (.value u) w':=fun w' hst=>by rw [he,Sem.run_bind,h1 w' hst];rfl
 exact ⟨_,u,E',H',s,by rw [hw];exact h4 _ (Ze3.refl _),.inl rfl,h2,h2',h3,h3',fun _=>⟨rfl,hw,fun w' h=>h4 w' (h hl)⟩,fun _=>by rw [hw];exact Grow.refl _,Zdv ha⟩
theorem YB {B:Base} {E:Env} {H:List Entry} (hI:Inv B E H) {o:Oper} {a:Act} {K:SV→List Entry→Prop} {x:Sem Value} (he:execOp a.eval o=(do pure (.value (←x)):Sem Next))
  (h:∃ u s,ZdX P x u∧den E s u∧K s H) (ha:appArg o.op=none:=by rfl):Ran P B E o a K:=by
 obtain ⟨u,s,h1,h2,h3⟩:=h
 have h4:∀ w',(execOp a.eval o).run P w'=.ok (.value u) w':=fun w'=>by rw [he,Sem.run_bind,h1 w'];rfl
 exact ⟨_,u,E,H,s,h4 _,.inl rfl,hI,Env.le.refl E,h2,h3,fun _=>⟨rfl,rfl,fun w' _=>h4 w'⟩,fun _=>Grow.refl _,Zdv ha⟩
theorem JZ {B:Base} {E:Env} {H:List Entry} (hI:Inv B E H) {o:Oper} {a:Act} {K:SV→List Entry→Prop} {u:Value} {s:SV} (he:execOp a.eval o=(pure (.value u):Sem Next))
  (h2:den E s u) (h3:K s H) (ha:appArg o.op=none:=by rfl):Ran P B E o a K :=
 ⟨_,u,E,H,s,by rw [he];rfl,.inl rfl,hI,Env.le.refl E,h2,h3,fun _=>⟨rfl,rfl,fun w' _=>by rw [he];rfl⟩,fun _=>Grow.refl _,Zdv ha⟩
theorem Vb {B:Base} {E:Env} {o:Oper} {a:Act} {K:SV→List Entry→Prop} {x:Sem Value} (he:execOp a.eval o=(do pure (.value (←x)):Sem Next)) (hl:Ql o.op=false)
  (h:∃ u E' H' s,x.run P E.w=.ok u E'.w∧Inv B E' H'∧E.le E'∧den E' s u∧K s H'∧Grow E.w E'.w) (ha:appArg o.op=none:=by rfl):Ran P B E o a K:=by
 obtain ⟨u,E',H',s,h1,h2,h3,h4,h5,h6⟩:=h
 exact ⟨_,u,E',H',s,by rw [he,Sem.run_bind,h1];rfl,.inl rfl,h2,h3,h4,h5,fun e=>(by rw [hl] at e;cases e),fun _=>h6,Zdv ha⟩
theorem Zmt {B:Base} {E:Env} {o:Oper} {a:Act} {K:SV→List Entry→Prop} {x:Sem Value} (he:execOp a.eval o=(do pure (.value (←x)):Sem Next)) (hl:(Ql o.op||Zbz o.op)=false)
  (h:∃ u E' H' s,x.run P E.w=.ok u E'.w∧Inv B E' H'∧E.le E'∧den E' s u∧K s H') (ha:appArg o.op=none:=by rfl):Ran P B E o a K:=by
 obtain ⟨u,E',H',s,h1,h2,h3,h4,h5⟩:=h
 have hl':Ql o.op=false:=by cases h:Ql o.op<;>simp [h] at hl ⊢
 exact ⟨_,u,E',H',s,by rw [he,Sem.run_bind,h1];rfl,.inl rfl,h2,h3,h4,h5,fun e=>(by rw [hl'] at e;cases e),fun e=>(by rw [hl] at e;cases e),Zdv ha⟩
theorem Zl3 {B:Base} {E:Env} {o:Oper} {a:Act} {K:SV→List Entry→Prop} {x:Sem Value} {r:Operand} (he:execOp a.eval o=(do pure (.value (←x)):Sem Next)) (hl:(Ql o.op||Zbz o.op)=false) (ha:appArg o.op=some r)
  (h:∃ u E' H' s,x.run P E.w=.ok u E'.w∧Inv B E' H'∧E.le E'∧den E' s u∧K s H'∧E.w.grownBy E'.w (a.eval r).ownBlock):Ran P B E o a K:=by
 obtain ⟨u,E',H',s,h1,h2,h3,h4,h5,h6⟩:=h
 have hl':Ql o.op=false:=by cases h:Ql o.op<;>simp [h] at hl ⊢
 exact ⟨_,u,E',H',s,by rw [he,Sem.run_bind,h1];rfl,.inl rfl,h2,h3,h4,h5,fun e=>(by rw [hl'] at e;cases e),fun e=>(by rw [hl] at e;cases e),fun x hx=>by rw [ha] at hx;injection hx with hx;subst hx;exact ZgQ h6⟩
theorem Zge (a:Act) (ps:Array (Nat×Operand)):(ps.map fun x=>(x.1,a.eval x.2)).toList=ps.toList.map fun x=>(x.1,a.eval x.2):=by simp
theorem Zjw {Δ:Tab} (hΔ:Δ.ok P) {B:Base} {E:Env} {H:List Entry} (hI:Inv B E H) {regs:List SV} {a:Act} (hd:Zy E regs a.tmps.toList) {o:Oper} {K:SV→List Entry→Prop}
  (h:opK Δ regs H o.op K):Ran P B E o a K:=by
 obtain ⟨dst,op,type,pos,after,guard⟩:=o
 simp only at h
 have val:∀ {x:Operand} (op':Op),(execOp a.eval ⟨dst,op',type,pos,after,guard⟩=pure (.value (a.eval x)))→(Xe regs x fun s=>K s H)→appArg op'=none→Ran P B E ⟨dst,op',type,pos,after,guard⟩ a K:=by
  intro x op' he h ha
  obtain ⟨s,hs,h⟩:=ZE hd h
  exact JZ hI he hs h ha
 unfold opK at h
 split at h
 ·exact val _ rfl h rfl
 ·exact val _ rfl h rfl
 ·rename_i c x y
  obtain ⟨s,hs,h⟩:=ZE hd h
  split at h
  ·simp only [den] at hs
   obtain ⟨s',hs',h⟩:=ZE hd h
   exact JZ hI (u:=a.eval x) (by simp [execOp,hs,asBool]) hs' h
  ·simp only [den] at hs
   obtain ⟨s',hs',h⟩:=ZE hd h
   exact JZ hI (u:=a.eval y) (by simp [execOp,hs,asBool]) hs' h
  ·rename_i p
   simp only [den] at hs
   cases p
   ·obtain ⟨s',hs',h⟩:=ZE hd (h.2 rfl)
    exact JZ hI (u:=a.eval y) (by simp [execOp,hs,asBool]) hs' h
   ·obtain ⟨s',hs',h⟩:=ZE hd (h.1 rfl)
    exact JZ hI (u:=a.eval x) (by simp [execOp,hs,asBool]) hs' h
  ·exact h.elim
 ·obtain ⟨ti,ht,h⟩:=ZU Δ hΔ h
  exact Vb rfl rfl (ZiA hI ht h)
 ·obtain ⟨s,hs,h⟩:=ZE hd h
  exact Vb rfl rfl (ZlG hI hs h)
 ·rename_i T ps
  obtain ⟨ti,ht,h⟩:=ZU Δ hΔ h
  obtain ⟨l,hl,h⟩:=Zdz hd _ h
  exact YB hI rfl (ZiF ht (by rw [Zge];exact hl) h)
 ·rename_i T n ps
  obtain ⟨ti,ht,h⟩:=ZU Δ hΔ h
  obtain ⟨l,hl,h⟩:=Zdz hd _ h
  exact Vb rfl rfl (ZdY hI ht (by rw [Zge];exact hl) h)
 ·obtain ⟨ti,ht,h⟩:=ZU Δ hΔ h
  obtain ⟨s,hs,h⟩:=ZE hd h
  exact ZjD hI rfl rfl (ZkE hI ht hs h)
 ·obtain ⟨ti,ht,h⟩:=ZU Δ hΔ h
  obtain ⟨sa,hsa,h⟩:=ZE hd h
  obtain ⟨sx,hsx,h⟩:=ZE hd h
  obtain ⟨E',H',h1,h2,h3,h4,h5⟩:=ZjU hI ht hsa hsx h
  exact ⟨.skip,undef,E',H',.tup [],by simp [execOp,h1],.inr ⟨rfl,rfl⟩,h2,h3,by simp only [den];exact ⟨[],rfl,trivial⟩,h4,fun e=>(by cases e),fun e=>(by cases e),fun y hy=>by simp only [appArg] at hy;injection hy with hy;subst hy;exact h5⟩
 ·obtain ⟨s0,hs0,h⟩:=ZE hd h
  obtain ⟨s,hs,h⟩:=ZiZ hs0 h
  split at h
  ·rename_i hp
   rcases Zg1 hs hp with ⟨p,hv⟩ | ⟨f,cs,hv⟩
   ·exact JZ hI (by simp [execOp,hv];rfl) (by rw [←hv];exact hs) h
   ·exact JZ hI (by simp [execOp,hv];rfl) (by rw [←hv];exact hs) h
  ·exact h.elim
 ·obtain ⟨sx,hsx,h⟩:=ZE hd h
  obtain ⟨sy,hsy,h⟩:=ZE hd h
  obtain ⟨r,s,h1,h2,h3⟩:=Zkg (P:=P) hΔ h hsx hsy _ _
  exact YB hI rfl ⟨r,s,h1,h2,h3⟩
 ·obtain ⟨sx,hsx,h⟩:=ZE hd h
  obtain ⟨r,s,h1,h2,h3⟩:=Zm7 (P:=P) h hsx
  exact YB hI rfl ⟨r,s,h1,h2,h3⟩
 ·obtain ⟨ts,hts,h⟩:=ZU Δ hΔ h
  obtain ⟨td,htd,h⟩:=ZU Δ hΔ h
  obtain ⟨s,hs,h⟩:=ZE hd h
  split at h
  ·rename_i hk1 hk2
   obtain ⟨te,hte,h⟩:=ZU Δ hΔ h
   obtain ⟨u,r,h1,h2,h3⟩:=ZiR (P:=P) hI hts hk1 htd hk2 hte hs h
   exact Vb rfl rfl ⟨u,E,H,r,h1,hI,Env.le.refl E,h2,h3,Grow.refl _⟩
  ·obtain ⟨u,r,h1,h2,h3⟩:=Zkk (P:=P) hts htd hs h
   exact YB hI rfl ⟨u,r,h1,h2,h3⟩
 ·rename_i f first caps
  split at h
  ·rename_i hf
   obtain ⟨caps⟩:=caps
   obtain ⟨l,hl,h⟩:=Zbu hd _ h
   have hf':first=#[]:=Array.eq_empty_of_size_eq_zero hf
   subst hf'
   refine YB hI rfl ⟨_,_,fun w=>rfl,?_,h⟩
   simp only [den]
   exact ⟨_,by simp,hl⟩
  ·exact h.elim
 ·obtain ⟨ti,ht,h⟩:=ZU Δ hΔ h
  obtain ⟨sl,hsl,h⟩:=ZE hd h
  obtain ⟨sc,hsc,h⟩:=ZE hd h
  exact Vb rfl rfl (ZkI hI ht hsl hsc h)
 ·obtain ⟨ti,ht,h⟩:=ZU Δ hΔ h
  obtain ⟨s,hs,h⟩:=ZE hd h
  exact Vb rfl rfl (ZjO hI hd ht hs h)
 ·obtain ⟨ti,ht,h⟩:=ZU Δ hΔ h
  obtain ⟨s,hs,h⟩:=ZE hd h
  exact YB hI rfl (Zfb ht hs h)
 ·obtain ⟨ti,ht,h⟩:=ZU Δ hΔ h
  obtain ⟨s,hs,h⟩:=ZE hd h
  exact YB hI rfl (Zja ht hs h)
 ·rename_i T x i
  obtain ⟨ti,ht,h⟩:=ZU Δ hΔ h
  obtain ⟨s,hs,h⟩:=ZE hd h
  cases i with
  | const v =>
   obtain ⟨si,hsi,h⟩:∃ si,(∀ j,Zb2 (.const v)=some j→∀ k i,si=.int k i→i=(j:Int))∧den E si v∧ZaM ti s si (.const v) H fun r=>K r H:=by
    have h':=h
    obtain ⟨si,hsi,h⟩:=ZE hd h
    have hsi':den E si v:=hsi
    refine ⟨si,fun j hj k i hsi2=>?_,hsi',h⟩
    subst hsi2
    simp only [den] at hsi'
    subst hsi'
    simp only [Zb2] at hj
    split at hj
    ·simp at hj;subst hj;rfl
    ·cases hj
   exact YB hI rfl (JQ hI ht hs h.1 h.2 hsi)
  | tmp t =>
   obtain ⟨si,hsi,h⟩:=ZE hd h
   exact YB hI rfl (JQ hI ht hs hsi h (fun j hj=>by simp [Zb2] at hj))
  | global g=>exact h.elim
  | func f =>
   obtain ⟨si,hsi,h⟩:=ZE hd h
   exact YB hI rfl (JQ hI ht hs hsi h (fun j hj=>by simp [Zb2] at hj))
 ·obtain ⟨ti,ht,h⟩:=ZU Δ hΔ h
  obtain ⟨s,hs,h⟩:=ZE hd h
  obtain ⟨si,hsi,h⟩:=ZE hd h
  obtain ⟨u,r,h1,h2,h3⟩:=ZjW (P:=P) ht hs hsi h
  exact YB hI rfl ⟨u,r,h1,h2,h3⟩
 ·obtain ⟨s,hs,h⟩:=ZE hd h
  obtain ⟨u,r,h1,h2,h3⟩:=Zmi (P:=P) hs h
  exact YB hI rfl ⟨u,r,h1,h2,h3⟩
 ·obtain ⟨ti,ht,h⟩:=ZU Δ hΔ h
  exact Vb rfl rfl (ZgX hI ht h)
 ·obtain ⟨ti,ht,h⟩:=ZU Δ hΔ h
  obtain ⟨sx,hsx,h⟩:=ZE hd h
  obtain ⟨si,hsi,h⟩:=ZE hd h
  obtain ⟨u,r,h1,h2,h3⟩:=Zh6 (P:=P) hΔ hI ht hsx hsi h
  exact Vb rfl rfl ⟨u,E,H,r,h1,hI,Env.le.refl E,h2,h3,Grow.refl _⟩
 ·obtain ⟨ti,ht,h⟩:=ZU Δ hΔ h
  obtain ⟨sx,hsx,h⟩:=ZE hd h
  obtain ⟨si,hsi,h⟩:=ZE hd h
  obtain ⟨sy,hsy,h⟩:=ZE hd h
  obtain ⟨E',H',h1,h2,h3,h4⟩:=Ziq (P:=P) hΔ hI ht hsx hsi hsy h
  exact ⟨.skip,undef,E',H',.tup [],by simp [execOp,h1],.inr ⟨rfl,rfl⟩,h2,h3,by simp only [den];exact ⟨[],rfl,trivial⟩,h4,fun e=>(by cases e),fun e=>(by cases e),Zdv rfl⟩
 ·rename_i c
  obtain ⟨callee,args,argTypes⟩:=c
  obtain ⟨args⟩:=args
  obtain ⟨argTypes⟩:=argTypes
  simp only at h
  split at h
  ·rename_i x T
   obtain ⟨ti,ht,h⟩:=ZU Δ hΔ h
   obtain ⟨s,hs,h⟩:=ZE hd h
   obtain ⟨u,r,h1,h2,h3⟩:=ZlV (ty:=type) hI ht hs h
   exact YB hI (x:=Builtin.len_ #[T] type #[a.eval x]) (by simp only [execOp,resolve,invoke,builtin,pure_bind,List.map_toArray,List.map_cons,List.map_nil]) ⟨u,r,h1,h2,h3⟩
  ·rename_i x y T T'
   split at h
   ·rename_i hTT;subst hTT
    obtain ⟨ti,ht,h⟩:=ZU Δ hΔ h
    obtain ⟨sx,hsx,h⟩:=ZE hd h
    obtain ⟨sy,hsy,h⟩:=ZE hd h
    exact Zl3 (x:=Builtin.append_ #[T,T] type #[a.eval x,a.eval y]) (by simp only [execOp,resolve,invoke,builtin,pure_bind,List.map_toArray,List.map_cons,List.map_nil]) rfl rfl (ZhW (ty:=type) hI ht hsx hsy h)
   ·exact h.elim
  ·rename_i x r
   obtain ⟨s,hs,h⟩:=ZE hd h
   obtain ⟨l,hl,h⟩:=Zbu hd _ h
   obtain ⟨u,r',h1,h2,h3⟩:=ZgY (P:=P) (mx:=false) l s _ _ hs hl h
   exact YB hI (x:=Builtin.min_ argTypes.toArray type ((x::r).toArray.map a.eval)) (by simp only [execOp,resolve,invoke,builtin,pure_bind]) ⟨u,r',fun w=>by simpa [Builtin.min_] using h1 w,h2,h3⟩
  ·rename_i x r
   obtain ⟨s,hs,h⟩:=ZE hd h
   obtain ⟨l,hl,h⟩:=Zbu hd _ h
   obtain ⟨u,r',h1,h2,h3⟩:=ZgY (P:=P) (mx:=true) l s _ _ hs hl h
   exact YB hI (x:=Builtin.max_ argTypes.toArray type ((x::r).toArray.map a.eval)) (by simp only [execOp,resolve,invoke,builtin,pure_bind]) ⟨u,r',fun w=>by simpa [Builtin.max_] using h1 w,h2,h3⟩
  ·exact h.elim
 ·exact h.elim
end
end Go.Sx
