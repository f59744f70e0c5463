/-
  One operation that is no call of a Go function.
-/
import Derived.Test.YtjfbeebdhmebpaaGreatDoorSxMap
namespace Go.Sx
set_option linter.unusedVariables false
set_option linter.unusedSimpArgs false
section
variable {P:Program}
def Znl (regs:List SV):List Operand→(List SV→Prop)→Prop
 | [],K=>K []
 | x::r,K=>XU regs x fun s=>Znl regs r fun l=>K (s::l)
theorem ZfW {E:Env} {regs:List SV} {a:Act} (hd:ZL E regs a.tmps.toList):∀ (xs:List Operand) {K:List SV→Prop},Znl regs xs K→∃ l,ZL E l (xs.map a.eval)∧K l
 | [],K,h=>⟨[],trivial,h⟩
 | x::r,K,h=>by
  obtain ⟨s,hs,h⟩:=ZW hd h
  obtain ⟨l,hl,h⟩:=ZfW hd r h
  exact ⟨s::l,⟨hs,hl⟩,h⟩
def SV.ZqJ:SV→Bool
 | .ptr _ _=>true
 | .oep _ _ _ _=>true
 | .fptr _=>true
 | .fn _ _=>true
 | _=>false
theorem Zl9 {E:Env} {s:SV} {v:Value} (h:den E s v) (hp:s.ZqJ=true) :
  (∃ a,v=.pointer (some a))∨∃ f cs,v=.func (.func f) #[] cs:=by
 cases s<;>simp [SV.ZqJ] at hp<;>simp only [den] at h
 case ptr=>obtain ⟨b,_,e⟩:=h;exact .inl ⟨_,e⟩
 case oep=>obtain ⟨b,bo,n,c,_,e⟩:=h;exact .inl ⟨_,e⟩
 case fptr=>obtain ⟨p,vs,e,_⟩:=h;exact .inl ⟨_,e⟩
 case fn=>obtain ⟨vs,e,_⟩:=h;exact .inr ⟨_,_,e⟩
def Zom (s:SV) (K:SV→Prop):Prop :=
 match s with
 | .nptr t d=>∃ x,d=some x∧Xo t x fun cs=>K (.fptr cs)
 | s=>K s
theorem Zon {E:Env} {s:SV} {v:Value} (hs:den E s v) {K:SV→Prop} (hk:Zom s K):∃ s',den E s' v∧K s':=by
 unfold Zom at hk
 split at hk
 ·rename_i t d
  obtain ⟨x,rfl,hk⟩:=hk
  rw [YD] at hk
  refine ⟨_,?_,hk⟩
  simp only [den] at hs ⊢
  rcases hs with ⟨e,_⟩ | ⟨x',p,xs,e,e2,hp,hS,hc,hr⟩
  ·cases e
  ·injection e with e;subst e
   simp at e2;subst e2
   exact ⟨p,xs,rfl,hp,hS,hc,Yr t _ _ hr⟩
 ·exact ⟨s,hs,hk⟩
def Zqw (Δ:Tab) (op:BinOp) (T:TypeId) (sx sy:SV) (K:SV→Prop):Prop :=
 match sx,sy with
 | .agg xs,.agg ys=>V9 Δ T fun ti=>eqK op ti (.agg xs) (.agg ys) K
 | .bool x,sy=>V9 Δ T fun ti=>eqK op ti (.bool x) sy K
 | .blit x,sy=>V9 Δ T fun ti=>eqK op ti (.blit x) sy K
 | sx,.nilp=>V9 Δ T fun ti=>if Zff ti.kind=true then ZsD op ti sx K else False
 | sx,.nsl=>V9 Δ T fun ti=>if Zlc ti.kind=true then ZsD op ti sx K else False
 | sx,sy=>ZsN op sx sy K
theorem Zpu {Δ:Tab} (hΔ:Δ.ok P) {E:Env} {op:BinOp} {T:TypeId} {x y:SV} {K:SV→Prop} (h:Zqw Δ op T x y K) {u v:Value} (hu:den E x u) (hv:den E y v) (ox oy:Operand) :
  ∃ r s,(∀ w,((do eqGuard op T ox oy u v;binOp op T u v:Sem Value)).run P w=.ok r w)∧den E s r∧K s:=by
 unfold Zqw at h
 split at h
 ·obtain ⟨ti,ht,h⟩:=Yp Δ hΔ h;exact Zos ht h hu hv ox oy
 ·obtain ⟨ti,ht,h⟩:=Yp Δ hΔ h;exact Zos ht h hu hv ox oy
 ·obtain ⟨ti,ht,h⟩:=Yp Δ hΔ h;exact Zos ht h hu hv ox oy
 ·obtain ⟨ti,ht,h⟩:=Yp Δ hΔ h
  split at h
  ·rename_i hq
   exact ZoP ht (.inl rfl) h ⟨fun _=>rfl,fun hs=>by cases hk:ti.kind<;>rw [hk] at hq hs<;>simp [Zff,Zlc] at hq hs⟩ hu hv ox oy
  ·exact h.elim
 ·obtain ⟨ti,ht,h⟩:=Yp Δ hΔ h
  split at h
  ·rename_i hq
   exact ZoP ht (.inr rfl) h ⟨fun hs=>by cases hk:ti.kind<;>rw [hk] at hq hs<;>simp [Zff,Zlc] at hq hs,fun _=>rfl⟩ hu hv ox oy
  ·exact h.elim
 ·exact Zqx h hu hv T ox oy
def opK (Δ:Tab) (regs:List SV) (H:List Entry) (op:Op) (K:SV→List Entry→Prop):Prop :=
 match op with
 | .move x=>XU regs x fun s=>K s H
 | .assign x=>XU regs x fun s=>K s H
 | .pick c x y=>XU regs c fun s=>match s with
  | .blit true=>XU regs x fun s=>K s H
  | .blit false=>XU regs y fun s=>K s H
  | .bool p=>(p=true→XU regs x fun s=>K s H)∧(p=false→XU regs y fun s=>K s H)
  | _=>False
 | .alloc T=>V9 Δ T fun ti=>Zqj ti H K
 | .box _ x=>XU regs x fun s=>ZsP s H K
 | .build T ps=>V9 Δ T fun ti=>Zm3 regs ps.toList fun l=>Zn7 ti l fun s=>K s H
 | .buildSlice T n ps=>V9 Δ T fun ti=>Zm3 regs ps.toList fun l=>Zfl ti n l H K
 | .load T x=>V9 Δ T fun ti=>XU regs x fun s=>ZqN ti s H K
 | .store T x y=>V9 Δ T fun ti=>XU regs x fun sa=>XU regs y fun sx=>Zpb ti sa sx H fun H'=>K (.tup []) H'
 | .nilCheck x=>XU regs x fun s=>Zom s fun s'=>if s'.ZqJ=true then K s' H else False
 | .binOp op T x y _=>XU regs x fun sx=>XU regs y fun sy=>Zqw Δ op T sx sy fun s=>K s H
 | .unOp op _ x=>XU regs x fun sx=>unK op sx fun s=>K s H
 | .convert S T x=>V9 Δ S fun ts=>V9 Δ T fun td=>XU regs x fun s=>match ts.kind,td.kind with
  | .sl,.str=>V9 Δ ts.elem fun te=>Zog te s H fun r=>K r H
  | _,_=>ZqD ts td s H fun r=>K r H
 | .makeFunc (.func f) first caps=>if first.size=0 then Znl regs caps.toList fun l=>K (.fn f l) H else False
 | .makeSlice T l c=>V9 Δ T fun ti=>XU regs l fun sl=>XU regs c fun sc=>ZqO ti sl sc H K
 | .slice T x lo hi none=>V9 Δ T fun ti=>XU regs x fun s=>Zo7 ti regs s lo hi H K
 | .fieldAddr T x f=>V9 Δ T fun ti=>XU regs x fun s=>ZgG ti s f fun r=>K r H
 | .field T x f=>V9 Δ T fun ti=>XU regs x fun s=>Zot ti s f fun r=>K r H
 | .indexAddr T x i=>V9 Δ T fun ti=>XU regs x fun s=>XU regs i fun si=>ZeH ti s si i H fun r=>K r H
 | .index T x i=>V9 Δ T fun ti=>XU regs x fun s=>XU regs i fun si=>Zpd ti s si fun r=>K r H
 | .extract x i=>XU regs x fun s=>Zuk s i fun r=>K r H
 | .makeMap T none=>V9 Δ T fun ti=>Zkx ti H K
 | .lookup T x i ok=>V9 Δ T fun ti=>XU regs x fun sx=>XU regs i fun si=>Zl5 Δ ti sx si ok H fun r=>K r H
 | .mapUpdate T x i y=>V9 Δ T fun ti=>XU regs x fun sx=>XU regs i fun si=>XU regs y fun sy=>Zmj Δ ti sx si sy H fun H'=>K (.tup []) H'
 | .call c=>match c.callee,c.args.toList,c.argTypes.toList with
  | .builtin .len,[x],[T]=>V9 Δ T fun ti=>XU regs x fun s=>ZtA ti s H fun r=>K r H
  | .builtin .append,[x,y],[T,T']=>if T=T' then V9 Δ T fun ti=>XU regs x fun sx=>XU regs y fun sy=>ZlL ti sx sy H K else False
  | .builtin .min,x::r,_=>XU regs x fun s=>Znl regs r fun l=>Zr3 false s l fun r=>K r H
  | .builtin .max,x::r,_=>XU regs x fun s=>Znl regs r fun l=>Zr3 true s l fun r=>K r H
  | _,_,_=>False
 | _=>False
def QO:Op→Bool
 | .move _=>true
 | .assign _=>true
 | .pick _ _ _=>true
 | .build _ _=>true
 | .load _ _=>true
 | .nilCheck _=>true
 | .binOp _ _ _ _ _=>true
 | .unOp _ _ _=>true
 | .fieldAddr _ _ _=>true
 | .field _ _ _=>true
 | .indexAddr _ _ _=>true
 | .index _ _ _=>true
 | .extract _ _=>true
 | .makeFunc _ _ _=>true
 | .call c=>match c.callee with
  | .builtin .len=>true
  | .builtin .min=>true
  | .builtin .max=>true
  | _=>false
 | _=>false
def isLoad:Op→Bool
 | .load _ _=>true
 | _=>false
def Zf0:Op→Bool
 | .alloc _=>true
 | .box _ _=>true
 | .buildSlice _ _ _=>true
 | .makeSlice _ _ _=>true
 | .slice _ _ _ _ _=>true
 | .convert _ _ _=>true
 | .makeMap _ _=>true
 | _=>false
def appArg:Op→Option Operand
 | .call ⟨.builtin .append,args,_⟩=>args.toList.head?
 | _=>none
def Ran (P:Program) (B:Base) (E:Env) (o:Oper) (a:Act) (K:SV→List Entry→Prop):Prop :=
 ∃ nx v E' H' s,(execOp a.eval o).run P E.w=.ok nx E'.w∧(nx=.value v∨nx=.skip∧v=undef)∧Inv B E' H'∧E.le E'∧den E' s v∧K s H'∧
  (QO o.op=true→nx=.value v∧E'.w=E.w∧∀ w',(isLoad o.op=true→Zj7 E.w w')→(execOp a.eval o).run P w'=.ok (.value v) w')∧((QO o.op||Zf0 o.op)=true→Grow E.w E'.w)∧∀ x,appArg o.op=some x→E.w.grownBy E'.w (a.eval x).ownBlock
theorem Zhk {op:Op} {p:Operand→Prop} (ha:appArg op=none):∀ x,appArg op=some x→p x:=fun x e=>by rw [ha] at e;cases e
theorem Zo1 {B:Base} {E:Env} {H:List Entry} (hI:Inv B E H) {o:Oper} {a:Act} {K:SV→List Entry→Prop} {x:Sem Value} (he:execOp a.eval o=(do pure (.value (←x)):Sem Next)) (hl:isLoad o.op=true)
  (h:∃ u s E' H',E'.w=E.w∧Zpt P E.w x u∧Inv B E' H'∧E.le E'∧den E' s u∧K s H') (ha:appArg o.op=none:=by rfl):Ran P B E o a K:=by
 obtain ⟨u,s,E',H',hw,h1,h2,h2',h3,h3'⟩:=h
 have h4:∀ w',Zj7 E.w w'→(execOp a.eval o).run P w'=.ok (.value u) w':=fun w' hst=>by rw [he,Sem.run_bind,h1 w' hst];rfl
 exact ⟨_,u,E',H',s,by rw [hw];exact h4 _ (Zj7.refl _),.inl rfl,h2,h2',h3,h3',fun _=>⟨rfl,hw,fun w' h=>h4 w' (h hl)⟩,fun _=>by rw [hw];exact Grow.refl _,Zhk ha⟩
theorem Xj {B:Base} {E:Env} {H:List Entry} (hI:Inv B E H) {o:Oper} {a:Act} {K:SV→List Entry→Prop} {x:Sem Value} (he:execOp a.eval o=(do pure (.value (←x)):Sem Next))
  (h:∃ u s,Zi4 P x u∧den E s u∧K s H) (ha:appArg o.op=none:=by rfl):Ran P B E o a K:=by
 obtain ⟨u,s,h1,h2,h3⟩:=h
 have h4:∀ w',(execOp a.eval o).run P w'=.ok (.value u) w':=fun w'=>by rw [he,Sem.run_bind,h1 w'];rfl
 exact ⟨_,u,E,H,s,h4 _,.inl rfl,hI,Env.le.refl E,h2,h3,fun _=>⟨rfl,rfl,fun w' _=>h4 w'⟩,fun _=>Grow.refl _,Zhk ha⟩
theorem ZdE {B:Base} {E:Env} {H:List Entry} (hI:Inv B E H) {o:Oper} {a:Act} {K:SV→List Entry→Prop} {u:Value} {s:SV} (he:execOp a.eval o=(pure (.value u):Sem Next))
  (h2:den E s u) (h3:K s H) (ha:appArg o.op=none:=by rfl):Ran P B E o a K :=
 ⟨_,u,E,H,s,by rw [he];rfl,.inl rfl,hI,Env.le.refl E,h2,h3,fun _=>⟨rfl,rfl,fun w' _=>by rw [he];rfl⟩,fun _=>Grow.refl _,Zhk ha⟩
theorem JG {B:Base} {E:Env} {o:Oper} {a:Act} {K:SV→List Entry→Prop} {x:Sem Value} (he:execOp a.eval o=(do pure (.value (←x)):Sem Next)) (hl:QO o.op=false)
  (h:∃ u E' H' s,x.run P E.w=.ok u E'.w∧Inv B E' H'∧E.le E'∧den E' s u∧K s H'∧Grow E.w E'.w) (ha:appArg o.op=none:=by rfl):Ran P B E o a K:=by
 obtain ⟨u,E',H',s,h1,h2,h3,h4,h5,h6⟩:=h
 exact ⟨_,u,E',H',s,by rw [he,Sem.run_bind,h1];rfl,.inl rfl,h2,h3,h4,h5,fun e=>(by rw [hl] at e;cases e),fun _=>h6,Zhk ha⟩
theorem ZrD {B:Base} {E:Env} {o:Oper} {a:Act} {K:SV→List Entry→Prop} {x:Sem Value} (he:execOp a.eval o=(do pure (.value (←x)):Sem Next)) (hl:(QO o.op||Zf0 o.op)=false)
  (h:∃ u E' H' s,x.run P E.w=.ok u E'.w∧Inv B E' H'∧E.le E'∧den E' s u∧K s H') (ha:appArg o.op=none:=by rfl):Ran P B E o a K:=by
 obtain ⟨u,E',H',s,h1,h2,h3,h4,h5⟩:=h
 have hl':QO o.op=false:=by cases h:QO o.op<;>simp [h] at hl ⊢
 exact ⟨_,u,E',H',s,by rw [he,Sem.run_bind,h1];rfl,.inl rfl,h2,h3,h4,h5,fun e=>(by rw [hl'] at e;cases e),fun e=>(by rw [hl] at e;cases e),Zhk ha⟩
theorem ZqU {B:Base} {E:Env} {o:Oper} {a:Act} {K:SV→List Entry→Prop} {x:Sem Value} {r:Operand} (he:execOp a.eval o=(do pure (.value (←x)):Sem Next)) (hl:(QO o.op||Zf0 o.op)=false) (ha:appArg o.op=some r)
  (h:∃ u E' H' s,x.run P E.w=.ok u E'.w∧Inv B E' H'∧E.le E'∧den E' s u∧K s H'∧E.w.grownBy E'.w (a.eval r).ownBlock):Ran P B E o a K:=by
 obtain ⟨u,E',H',s,h1,h2,h3,h4,h5,h6⟩:=h
 have hl':QO o.op=false:=by cases h:QO o.op<;>simp [h] at hl ⊢
 exact ⟨_,u,E',H',s,by rw [he,Sem.run_bind,h1];rfl,.inl rfl,h2,h3,h4,h5,fun e=>(by rw [hl'] at e;cases e),fun e=>(by rw [hl] at e;cases e),fun x hx=>by rw [ha] at hx;injection hx with hx;subst hx;exact h6⟩
theorem Zlq (a:Act) (ps:Array (Nat×Operand)):(ps.map fun x=>(x.1,a.eval x.2)).toList=ps.toList.map fun x=>(x.1,a.eval x.2):=by simp
theorem ZoS {Δ:Tab} (hΔ:Δ.ok P) {B:Base} {E:Env} {H:List Entry} (hI:Inv B E H) {regs:List SV} {a:Act} (hd:ZL E regs a.tmps.toList) {o:Oper} {K:SV→List Entry→Prop}
  (h:opK Δ regs H o.op K):Ran P B E o a K:=by
 obtain ⟨dst,op,type,pos,after,guard⟩:=o
 simp only at h
 have val:∀ {x:Operand} (op':Op),(execOp a.eval ⟨dst,op',type,pos,after,guard⟩=pure (.value (a.eval x)))→(XU regs x fun s=>K s H)→appArg op'=none→Ran P B E ⟨dst,op',type,pos,after,guard⟩ a K:=by
  intro x op' he h ha
  obtain ⟨s,hs,h⟩:=ZW hd h
  exact ZdE hI he hs h ha
 unfold opK at h
 split at h
 ·exact val _ rfl h rfl
 ·exact val _ rfl h rfl
 ·rename_i c x y
  obtain ⟨s,hs,h⟩:=ZW hd h
  split at h
  ·simp only [den] at hs
   obtain ⟨s',hs',h⟩:=ZW hd h
   exact ZdE hI (u:=a.eval x) (by simp [execOp,hs,asBool]) hs' h
  ·simp only [den] at hs
   obtain ⟨s',hs',h⟩:=ZW hd h
   exact ZdE hI (u:=a.eval y) (by simp [execOp,hs,asBool]) hs' h
  ·rename_i p
   simp only [den] at hs
   cases p
   ·obtain ⟨s',hs',h⟩:=ZW hd (h.2 rfl)
    exact ZdE hI (u:=a.eval y) (by simp [execOp,hs,asBool]) hs' h
   ·obtain ⟨s',hs',h⟩:=ZW hd (h.1 rfl)
    exact ZdE hI (u:=a.eval x) (by simp [execOp,hs,asBool]) hs' h
  ·exact h.elim
 ·obtain ⟨ti,ht,h⟩:=Yp Δ hΔ h
  exact JG rfl rfl (Zn0 hI ht h)
 ·obtain ⟨s,hs,h⟩:=ZW hd h
  exact JG rfl rfl (Zqy hI hs h)
 ·rename_i T ps
  obtain ⟨ti,ht,h⟩:=Yp Δ hΔ h
  obtain ⟨l,hl,h⟩:=ZiG hd _ h
  exact Xj hI rfl (Zn8 ht (by rw [Zlq];exact hl) h)
 ·rename_i T n ps
  obtain ⟨ti,ht,h⟩:=Yp Δ hΔ h
  obtain ⟨l,hl,h⟩:=ZiG hd _ h
  exact JG rfl rfl (Zi5 hI ht (by rw [Zlq];exact hl) h)
 ·obtain ⟨ti,ht,h⟩:=Yp Δ hΔ h
  obtain ⟨s,hs,h⟩:=ZW hd h
  exact Zo1 hI rfl rfl (ZpV hI ht hs h)
 ·obtain ⟨ti,ht,h⟩:=Yp Δ hΔ h
  obtain ⟨sa,hsa,h⟩:=ZW hd h
  obtain ⟨sx,hsx,h⟩:=ZW hd h
  obtain ⟨E',H',h1,h2,h3,h4⟩:=Zpc hI ht hsa hsx h
  exact ⟨.skip,undef,E',H',.tup [],by simp [execOp,h1],.inr ⟨rfl,rfl⟩,h2,h3,by simp only [den];exact ⟨[],rfl,trivial⟩,h4,fun e=>(by cases e),fun e=>(by cases e),Zhk rfl⟩
 ·obtain ⟨s0,hs0,h⟩:=ZW hd h
  obtain ⟨s,hs,h⟩:=Zon hs0 h
  split at h
  ·rename_i hp
   rcases Zl9 hs hp with ⟨p,hv⟩ | ⟨f,cs,hv⟩
   ·exact ZdE hI (by simp [execOp,hv];rfl) (by rw [←hv];exact hs) h
   ·exact ZdE hI (by simp [execOp,hv];rfl) (by rw [←hv];exact hs) h
  ·exact h.elim
 ·obtain ⟨sx,hsx,h⟩:=ZW hd h
  obtain ⟨sy,hsy,h⟩:=ZW hd h
  obtain ⟨r,s,h1,h2,h3⟩:=Zpu (P:=P) hΔ h hsx hsy _ _
  exact Xj hI rfl ⟨r,s,h1,h2,h3⟩
 ·obtain ⟨sx,hsx,h⟩:=ZW hd h
  obtain ⟨r,s,h1,h2,h3⟩:=Zsr (P:=P) h hsx
  exact Xj hI rfl ⟨r,s,h1,h2,h3⟩
 ·obtain ⟨ts,hts,h⟩:=Yp Δ hΔ h
  obtain ⟨td,htd,h⟩:=Yp Δ hΔ h
  obtain ⟨s,hs,h⟩:=ZW hd h
  split at h
  ·rename_i hk1 hk2
   obtain ⟨te,hte,h⟩:=Yp Δ hΔ h
   obtain ⟨u,r,h1,h2,h3⟩:=Zoh (P:=P) hI hts hk1 htd hk2 hte hs h
   exact JG rfl rfl ⟨u,E,H,r,h1,hI,Env.le.refl E,h2,h3,Grow.refl _⟩
  ·obtain ⟨u,r,h1,h2,h3⟩:=Zpy (P:=P) hts htd hs h
   exact Xj hI rfl ⟨u,r,h1,h2,h3⟩
 ·rename_i f first caps
  split at h
  ·rename_i hf
   obtain ⟨caps⟩:=caps
   obtain ⟨l,hl,h⟩:=ZfW hd _ h
   have hf':first=#[]:=Array.eq_empty_of_size_eq_zero hf
   subst hf'
   refine Xj hI rfl ⟨_,_,fun w=>rfl,?_,h⟩
   simp only [den]
   exact ⟨_,by simp,hl⟩
  ·exact h.elim
 ·obtain ⟨ti,ht,h⟩:=Yp Δ hΔ h
  obtain ⟨sl,hsl,h⟩:=ZW hd h
  obtain ⟨sc,hsc,h⟩:=ZW hd h
  exact JG rfl rfl (ZpY hI ht hsl hsc h)
 ·obtain ⟨ti,ht,h⟩:=Yp Δ hΔ h
  obtain ⟨s,hs,h⟩:=ZW hd h
  exact JG rfl rfl (Zo8 hI hd ht hs h)
 ·obtain ⟨ti,ht,h⟩:=Yp Δ hΔ h
  obtain ⟨s,hs,h⟩:=ZW hd h
  exact Xj hI rfl (Zkf ht hs h)
 ·obtain ⟨ti,ht,h⟩:=Yp Δ hΔ h
  obtain ⟨s,hs,h⟩:=ZW hd h
  exact Xj hI rfl (Zou ht hs h)
 ·rename_i T x i
  obtain ⟨ti,ht,h⟩:=Yp Δ hΔ h
  obtain ⟨s,hs,h⟩:=ZW hd h
  cases i with
  | const v =>
   obtain ⟨si,hsi,h⟩:∃ si,(∀ j,ZgE (.const v)=some j→∀ k i,si=.int k i→i=(j:Int))∧den E si v∧ZeH ti s si (.const v) H fun r=>K r H:=by
    have h':=h
    obtain ⟨si,hsi,h⟩:=ZW hd h
    have hsi':den E si v:=hsi
    refine ⟨si,fun j hj k i hsi2=>?_,hsi',h⟩
    subst hsi2
    simp only [den] at hsi'
    subst hsi'
    simp only [ZgE] at hj
    split at hj
    ·simp at hj;subst hj;rfl
    ·cases hj
   exact Xj hI rfl (Zdq hI ht hs h.1 h.2 hsi)
  | tmp t =>
   obtain ⟨si,hsi,h⟩:=ZW hd h
   exact Xj hI rfl (Zdq hI ht hs hsi h (fun j hj=>by simp [ZgE] at hj))
  | global g=>exact h.elim
  | func f =>
   obtain ⟨si,hsi,h⟩:=ZW hd h
   exact Xj hI rfl (Zdq hI ht hs hsi h (fun j hj=>by simp [ZgE] at hj))
 ·obtain ⟨ti,ht,h⟩:=Yp Δ hΔ h
  obtain ⟨s,hs,h⟩:=ZW hd h
  obtain ⟨si,hsi,h⟩:=ZW hd h
  obtain ⟨u,r,h1,h2,h3⟩:=Zpe (P:=P) ht hs hsi h
  exact Xj hI rfl ⟨u,r,h1,h2,h3⟩
 ·obtain ⟨s,hs,h⟩:=ZW hd h
  obtain ⟨u,r,h1,h2,h3⟩:=Zrt (P:=P) hs h
  exact Xj hI rfl ⟨u,r,h1,h2,h3⟩
 ·obtain ⟨ti,ht,h⟩:=Yp Δ hΔ h
  exact JG rfl rfl (Zl6 hI ht h)
 ·obtain ⟨ti,ht,h⟩:=Yp Δ hΔ h
  obtain ⟨sx,hsx,h⟩:=ZW hd h
  obtain ⟨si,hsi,h⟩:=ZW hd h
  obtain ⟨u,r,h1,h2,h3⟩:=Znu (P:=P) hΔ hI ht hsx hsi h
  exact JG rfl rfl ⟨u,E,H,r,h1,hI,Env.le.refl E,h2,h3,Grow.refl _⟩
 ·obtain ⟨ti,ht,h⟩:=Yp Δ hΔ h
  obtain ⟨sx,hsx,h⟩:=ZW hd h
  obtain ⟨si,hsi,h⟩:=ZW hd h
  obtain ⟨sy,hsy,h⟩:=ZW hd h
  obtain ⟨E',H',h1,h2,h3,h4⟩:=ZnP (P:=P) hΔ hI ht hsx hsi hsy h
  exact ⟨.skip,undef,E',H',.tup [],by simp [execOp,h1],.inr ⟨rfl,rfl⟩,h2,h3,by simp only [den];exact ⟨[],rfl,trivial⟩,h4,fun e=>(by cases e),fun e=>(by cases e),Zhk rfl⟩
 ·rename_i c
  obtain ⟨callee,args,argTypes⟩:=c
  obtain ⟨args⟩:=args
  obtain ⟨argTypes⟩:=argTypes
  simp only at h
  split at h
  ·rename_i x T
   obtain ⟨ti,ht,h⟩:=Yp Δ hΔ h
   obtain ⟨s,hs,h⟩:=ZW hd h
   obtain ⟨u,r,h1,h2,h3⟩:=ZqM (ty:=type) hI ht hs h
   exact Xj hI (x:=Builtin.len_ #[T] type #[a.eval x]) (by simp only [execOp,resolve,invoke,builtin,pure_bind,List.map_toArray,List.map_cons,List.map_nil]) ⟨u,r,h1,h2,h3⟩
  ·rename_i x y T T'
   split at h
   ·rename_i hTT;subst hTT
    obtain ⟨ti,ht,h⟩:=Yp Δ hΔ h
    obtain ⟨sx,hsx,h⟩:=ZW hd h
    obtain ⟨sy,hsy,h⟩:=ZW hd h
    exact ZqU (x:=Builtin.append_ #[T,T] type #[a.eval x,a.eval y]) (by simp only [execOp,resolve,invoke,builtin,pure_bind,List.map_toArray,List.map_cons,List.map_nil]) rfl rfl (Znd (ty:=type) hI ht hsx hsy h)
   ·exact h.elim
  ·rename_i x r
   obtain ⟨s,hs,h⟩:=ZW hd h
   obtain ⟨l,hl,h⟩:=ZfW hd _ h
   obtain ⟨u,r',h1,h2,h3⟩:=Zl8 (P:=P) (mx:=false) l s _ _ hs hl h
   exact Xj hI (x:=Builtin.min_ argTypes.toArray type ((x::r).toArray.map a.eval)) (by simp only [execOp,resolve,invoke,builtin,pure_bind]) ⟨u,r',fun w=>by simpa [Builtin.min_] using h1 w,h2,h3⟩
  ·rename_i x r
   obtain ⟨s,hs,h⟩:=ZW hd h
   obtain ⟨l,hl,h⟩:=ZfW hd _ h
   obtain ⟨u,r',h1,h2,h3⟩:=Zl8 (P:=P) (mx:=true) l s _ _ hs hl h
   exact Xj hI (x:=Builtin.max_ argTypes.toArray type ((x::r).toArray.map a.eval)) (by simp only [execOp,resolve,invoke,builtin,pure_bind]) ⟨u,r',fun w=>by simpa [Builtin.max_] using h1 w,h2,h3⟩
  ·exact h.elim
 ·exact h.elim
end
end Go.Sx
