/-
  One operation that is no call of a Go function.
-/
import Derived.Test.YtpiemlnhjobopaaGreatDoorSxMap
namespace Go.Sx
set_option linter.unusedVariables false
set_option linter.unusedSimpArgs false
section
variable {P:Program}
def ZqY (regs:List SV):List Operand→(List SV→Prop)→Prop
 | [],K=>K []
 | x::r,K=>QV regs x fun s=>ZqY regs r fun l=>K (s::l)
theorem Zi8 {E:Env} {regs:List SV} {a:Act} (hd:Z0 E regs a.tmps.toList):∀ (xs:List Operand) {K:List SV→Prop},ZqY regs xs K→∃ l,Z0 E l (xs.map a.eval)∧K l
 | [],K,h=>⟨[],trivial,h⟩
 | x::r,K,h=>by
  obtain ⟨s,hs,h⟩:=Yf hd h
  obtain ⟨l,hl,h⟩:=Zi8 hd r h
  exact ⟨s::l,⟨hs,hl⟩,h⟩
def SV.Zum:SV→Bool
 | .ptr _ _=>true
 | .oep _ _ _ _=>true
 | .fptr _=>true
 | .fn _ _=>true
 | _=>false
theorem ZpZ {E:Env} {s:SV} {v:Value} (h:den E s v) (hp:s.Zum=true) :
  (∃ a,v=.pointer (some a))∨∃ f cs,v=.func (.func f) #[] cs:=by
 cases s<;>simp [SV.Zum] at hp<;>simp only [den] at h
 case ptr=>obtain ⟨b,_,e⟩:=h;exact .inl ⟨_,e⟩
 case oep=>obtain ⟨b,bo,n,c,_,e⟩:=h;exact .inl ⟨_,e⟩
 case fptr=>obtain ⟨p,vs,e,_⟩:=h;exact .inl ⟨_,e⟩
 case fn=>obtain ⟨vs,e,_⟩:=h;exact .inr ⟨_,_,e⟩
def ZrS (s:SV) (K:SV→Prop):Prop :=
 match s with
 | .nptr t d=>∃ x,d=some x∧XZ t x fun cs=>K (.fptr cs)
 | s=>K s
theorem ZrT {E:Env} {s:SV} {v:Value} (hs:den E s v) {K:SV→Prop} (hk:ZrS s K):∃ s',den E s' v∧K s':=by
 unfold ZrS at hk
 split at hk
 ·rename_i t d
  obtain ⟨x,rfl,hk⟩:=hk
  rw [Xc] at hk
  refine ⟨_,?_,hk⟩
  simp only [den] at hs ⊢
  rcases hs with ⟨e,_⟩ | ⟨x',p,xs,e,e2,hp,hS,hc,hr⟩
  ·cases e
  ·injection e with e;subst e
   simp at e2;subst e2
   exact ⟨p,xs,rfl,hp,hS,hc,YX t _ _ hr⟩
 ·exact ⟨s,hs,hk⟩
def Zt4 (Δ:Tab) (op:BinOp) (T:TypeId) (sx sy:SV) (K:SV→Prop):Prop :=
 match sx,sy with
 | .agg xs,.agg ys=>ZaX Δ T fun ti=>eqK op ti (.agg xs) (.agg ys) K
 | .bool x,sy=>ZaX Δ T fun ti=>eqK op ti (.bool x) sy K
 | .blit x,sy=>ZaX Δ T fun ti=>eqK op ti (.blit x) sy K
 | sx,.nilp=>ZaX Δ T fun ti=>if Zic ti.kind=true then ZwC op ti sx K else False
 | sx,.nsl=>ZaX Δ T fun ti=>if Zo6 ti.kind=true then ZwC op ti sx K else False
 | sx,sy=>ZwN op sx sy K
theorem Zs5 {Δ:Tab} (hΔ:Δ.ok P) {E:Env} {op:BinOp} {T:TypeId} {x y:SV} {K:SV→Prop} (h:Zt4 Δ op T x y K) {u v:Value} (hu:den E x u) (hv:den E y v) (ox oy:Operand) :
  ∃ r s,(∀ w,((do eqGuard op T ox oy u v;binOp op T u v:Sem Value)).run P w=.ok r w)∧den E s r∧K s:=by
 unfold Zt4 at h
 split at h
 ·obtain ⟨ti,ht,h⟩:=YV Δ hΔ h;exact ZrW ht h hu hv ox oy
 ·obtain ⟨ti,ht,h⟩:=YV Δ hΔ h;exact ZrW ht h hu hv ox oy
 ·obtain ⟨ti,ht,h⟩:=YV Δ hΔ h;exact ZrW ht h hu hv ox oy
 ·obtain ⟨ti,ht,h⟩:=YV Δ hΔ h
  split at h
  ·rename_i hq
   exact Zsk ht (.inl rfl) h ⟨fun _=>rfl,fun hs=>by cases hk:ti.kind<;>rw [hk] at hq hs<;>simp [Zic,Zo6] at hq hs⟩ hu hv ox oy
  ·exact h.elim
 ·obtain ⟨ti,ht,h⟩:=YV Δ hΔ h
  split at h
  ·rename_i hq
   exact Zsk ht (.inr rfl) h ⟨fun hs=>by cases hk:ti.kind<;>rw [hk] at hq hs<;>simp [Zic,Zo6] at hq hs,fun _=>rfl⟩ hu hv ox oy
  ·exact h.elim
 ·exact Zt5 h hu hv T ox oy
def opK (Δ:Tab) (regs:List SV) (H:List Entry) (op:Op) (K:SV→List Entry→Prop):Prop :=
 match op with
 | .move x=>QV regs x fun s=>K s H
 | .assign x=>QV regs x fun s=>K s H
 | .pick c x y=>QV regs c fun s=>match s with
  | .blit true=>QV regs x fun s=>K s H
  | .blit false=>QV regs y fun s=>K s H
  | .bool p=>(p=true→QV regs x fun s=>K s H)∧(p=false→QV regs y fun s=>K s H)
  | _=>False
 | .alloc T=>ZaX Δ T fun ti=>ZtR ti H K
 | .box _ x=>QV regs x fun s=>ZwP s H K
 | .build T ps=>ZaX Δ T fun ti=>ZqK regs ps.toList fun l=>ZrD ti l fun s=>K s H
 | .buildSlice T n ps=>ZaX Δ T fun ti=>ZqK regs ps.toList fun l=>Zin ti n l H K
 | .load T x=>ZaX Δ T fun ti=>QV regs x fun s=>Zur ti s H K
 | .store T x y=>ZaX Δ T fun ti=>QV regs x fun sa=>QV regs y fun sx=>ZsJ ti sa sx H fun H'=>K (.tup []) H'
 | .nilCheck x=>QV regs x fun s=>ZrS s fun s'=>if s'.Zum=true then K s' H else False
 | .binOp op T x y _=>QV regs x fun sx=>QV regs y fun sy=>Zt4 Δ op T sx sy fun s=>K s H
 | .unOp op _ x=>QV regs x fun sx=>unK op sx fun s=>K s H
 | .convert S T x=>ZaX Δ S fun ts=>ZaX Δ T fun td=>QV regs x fun s=>match ts.kind,td.kind with
  | .sl,.str=>ZaX Δ ts.elem fun te=>ZrL te s H fun r=>K r H
  | _,_=>Zud ts td s H fun r=>K r H
 | .makeFunc (.func f) first caps=>if first.size=0 then ZqY regs caps.toList fun l=>K (.fn f l) H else False
 | .makeSlice T l c=>ZaX Δ T fun ti=>QV regs l fun sl=>QV regs c fun sc=>Zus ti sl sc H K
 | .slice T x lo hi none=>ZaX Δ T fun ti=>QV regs x fun s=>ZsG ti regs s lo hi H K
 | .fieldAddr T x f=>ZaX Δ T fun ti=>QV regs x fun s=>ZjY ti s f fun r=>K r H
 | .field T x f=>ZaX Δ T fun ti=>QV regs x fun s=>ZrY ti s f fun r=>K r H
 | .indexAddr T x i=>ZaX Δ T fun ti=>QV regs x fun s=>QV regs i fun si=>ZhF ti s si i H fun r=>K r H
 | .index T x i=>ZaX Δ T fun ti=>QV regs x fun s=>QV regs i fun si=>ZsL ti s si fun r=>K r H
 | .extract x i=>QV regs x fun s=>Zy3 s i fun r=>K r H
 | .makeMap T none=>ZaX Δ T fun ti=>ZoB ti H K
 | .lookup T x i ok=>ZaX Δ T fun ti=>QV regs x fun sx=>QV regs i fun si=>ZpV Δ ti sx si ok H fun r=>K r H
 | .mapUpdate T x i y=>ZaX Δ T fun ti=>QV regs x fun sx=>QV regs i fun si=>QV regs y fun sy=>Zqb Δ ti sx si sy H fun H'=>K (.tup []) H'
 | .call c=>match c.callee,c.args.toList,c.argTypes.toList with
  | .builtin .len,[x],[T]=>ZaX Δ T fun ti=>QV regs x fun s=>Zya ti s H fun r=>K r H
  | .builtin .append,[x,y],[T,T']=>if T=T' then ZaX Δ T fun ti=>QV regs x fun sx=>QV regs y fun sy=>ZpH ti sx sy H K else False
  | .builtin .min,x::r,_=>QV regs x fun s=>ZqY regs r fun l=>ZvR false s l fun r=>K r H
  | .builtin .max,x::r,_=>QV regs x fun s=>ZqY regs r fun l=>ZvR true s l fun r=>K r H
  | _,_,_=>False
 | _=>False
def Jy:Op→Bool
 | .move _=>true
 | .assign _=>true
 | .pick _ _ _=>true
 | .build _ _=>true
 | .load _ _=>true
 | .nilCheck _=>true
 | .binOp _ _ _ _ _=>true
 | .unOp _ _ _=>true
 | .fieldAddr _ _ _=>true
 | .field _ _ _=>true
 | .indexAddr _ _ _=>true
 | .index _ _ _=>true
 | .extract _ _=>true
 | .makeFunc _ _ _=>true
 | .call c=>match c.callee with
  | .builtin .len=>true
  | .builtin .min=>true
  | .builtin .max=>true
  | _=>false
 | _=>false
def isLoad:Op→Bool
 | .load _ _=>true
 | _=>false
def Zjc:Op→Bool
 | .alloc _=>true
 | .box _ _=>true
 | .buildSlice _ _ _=>true
 | .makeSlice _ _ _=>true
 | .slice _ _ _ _ _=>true
 | .convert _ _ _=>true
 | .makeMap _ _=>true
 | _=>false
def appArg:Op→Option Operand
 | .call ⟨.builtin .append,args,_⟩=>args.toList.head?
 | _=>none
def Ran (P:Program) (B:Base) (E:Env) (o:Oper) (a:Act) (K:SV→List Entry→Prop):Prop :=
 ∃ nx v E' H' s,(execOp a.eval o).run P E.w=.ok nx E'.w∧(nx=.value v∨nx=.skip∧v=undef)∧Inv B E' H'∧E.le E'∧den E' s v∧K s H'∧
  (Jy o.op=true→nx=.value v∧E'.w=E.w∧∀ w',(isLoad o.op=true→Zoc E.w w')→(execOp a.eval o).run P w'=.ok (.value v) w')∧((Jy o.op||Zjc o.op)=true→Grow E.w E'.w)∧∀ x,appArg o.op=some x→E.w.grownBy E'.w (a.eval x).ownBlock
theorem ZkU {op:Op} {p:Operand→Prop} (ha:appArg op=none):∀ x,appArg op=some x→p x:=fun x e=>by rw [ha] at e;cases e
theorem Zsw {B:Base} {E:Env} {H:List Entry} (hI:Inv B E H) {o:Oper} {a:Act} {K:SV→List Entry→Prop} {x:Sem Value} (he:execOp a.eval o=(do pure (.value (←x)):Sem Next)) (hl:isLoad o.op=true)
  (h:∃ u s E' H',E'.w=E.w∧Zs3 P E.w x u∧Inv B E' H'∧E.le E'∧den E' s u∧K s H') (ha:appArg o.op=none:=by rfl):Ran P B E o a K:=by
 obtain ⟨u,s,E',H',hw,h1,h2,h2',h3,h3'⟩:=h
 have h4:∀ w',Zoc E.w w'→(execOp a.eval o).run P w'=.ok (.value u) w':=fun w' hst=>by rw [he,Sem.run_bind,h1 w' hst];rfl
 exact ⟨_,u,E',H',s,by rw [hw];exact h4 _ (Zoc.refl _),.inl rfl,h2,h2',h3,h3',fun _=>⟨rfl,hw,fun w' h=>h4 w' (h hl)⟩,fun _=>by rw [hw];exact Grow.refl _,ZkU ha⟩
theorem XU {B:Base} {E:Env} {H:List Entry} (hI:Inv B E H) {o:Oper} {a:Act} {K:SV→List Entry→Prop} {x:Sem Value} (he:execOp a.eval o=(do pure (.value (←x)):Sem Next))
  (h:∃ u s,Znd P x u∧den E s u∧K s H) (ha:appArg o.op=none:=by rfl):Ran P B E o a K:=by
 obtain ⟨u,s,h1,h2,h3⟩:=h
 have h4:∀ w',(execOp a.eval o).run P w'=.ok (.value u) w':=fun w'=>by rw [he,Sem.run_bind,h1 w'];rfl
 exact ⟨_,u,E,H,s,h4 _,.inl rfl,hI,Env.le.refl E,h2,h3,fun _=>⟨rfl,rfl,fun w' _=>h4 w'⟩,fun _=>Grow.refl _,ZkU ha⟩
theorem Zgq {B:Base} {E:Env} {H:List Entry} (hI:Inv B E H) {o:Oper} {a:Act} {K:SV→List Entry→Prop} {u:Value} {s:SV} (he:execOp a.eval o=(pure (.value u):Sem Next))
  (h2:den E s u) (h3:K s H) (ha:appArg o.op=none:=by rfl):Ran P B E o a K :=
 ⟨_,u,E,H,s,by rw [he];rfl,.inl rfl,hI,Env.le.refl E,h2,h3,fun _=>⟨rfl,rfl,fun w' _=>by rw [he];rfl⟩,fun _=>Grow.refl _,ZkU ha⟩
theorem ZbK {B:Base} {E:Env} {o:Oper} {a:Act} {K:SV→List Entry→Prop} {x:Sem Value} (he:execOp a.eval o=(do pure (.value (←x)):Sem Next)) (hl:Jy o.op=false)
  (h:∃ u E' H' s,x.run P E.w=.ok u E'.w∧Inv B E' H'∧E.le E'∧den E' s u∧K s H'∧Grow E.w E'.w) (ha:appArg o.op=none:=by rfl):Ran P B E o a K:=by
 obtain ⟨u,E',H',s,h1,h2,h3,h4,h5,h6⟩:=h
 exact ⟨_,u,E',H',s,by rw [he,Sem.run_bind,h1];rfl,.inl rfl,h2,h3,h4,h5,fun e=>(by rw [hl] at e;cases e),fun _=>h6,ZkU ha⟩
theorem Zvs {B:Base} {E:Env} {o:Oper} {a:Act} {K:SV→List Entry→Prop} {x:Sem Value} (he:execOp a.eval o=(do pure (.value (←x)):Sem Next)) (hl:(Jy o.op||Zjc o.op)=false)
  (h:∃ u E' H' s,x.run P E.w=.ok u E'.w∧Inv B E' H'∧E.le E'∧den E' s u∧K s H') (ha:appArg o.op=none:=by rfl):Ran P B E o a K:=by
 obtain ⟨u,E',H',s,h1,h2,h3,h4,h5⟩:=h
 have hl':Jy o.op=false:=by cases h:Jy o.op<;>simp [h] at hl ⊢
 exact ⟨_,u,E',H',s,by rw [he,Sem.run_bind,h1];rfl,.inl rfl,h2,h3,h4,h5,fun e=>(by rw [hl'] at e;cases e),fun e=>(by rw [hl] at e;cases e),ZkU ha⟩
theorem Zux {B:Base} {E:Env} {o:Oper} {a:Act} {K:SV→List Entry→Prop} {x:Sem Value} {r:Operand} (he:execOp a.eval o=(do pure (.value (←x)):Sem Next)) (hl:(Jy o.op||Zjc o.op)=false) (ha:appArg o.op=some r)
  (h:∃ u E' H' s,x.run P E.w=.ok u E'.w∧Inv B E' H'∧E.le E'∧den E' s u∧K s H'∧E.w.grownBy E'.w (a.eval r).ownBlock):Ran P B E o a K:=by
 obtain ⟨u,E',H',s,h1,h2,h3,h4,h5,h6⟩:=h
 have hl':Jy o.op=false:=by cases h:Jy o.op<;>simp [h] at hl ⊢
 exact ⟨_,u,E',H',s,by rw [he,Sem.run_bind,h1];rfl,.inl rfl,h2,h3,h4,h5,fun e=>(by rw [hl'] at e;cases e),fun e=>(by rw [hl] at e;cases e),fun x hx=>by rw [ha] at hx;injection hx with hx;subst hx;exact h6⟩
theorem Zpg (a:Act) (ps:Array (Nat×Operand)):(ps.map fun x=>(x.1,a.eval x.2)).toList=ps.toList.map fun x=>(x.1,a.eval x.2):=by simp
theorem Zsn {Δ:Tab} (hΔ:Δ.ok P) {B:Base} {E:Env} {H:List Entry} (hI:Inv B E H) {regs:List SV} {a:Act} (hd:Z0 E regs a.tmps.toList) {o:Oper} {K:SV→List Entry→Prop}
  (h:opK Δ regs H o.op K):Ran P B E o a K:=by
 obtain ⟨dst,op,type,pos,after,guard⟩:=o
 simp only at h
 have val:∀ {x:Operand} (op':Op),(execOp a.eval ⟨dst,op',type,pos,after,guard⟩=pure (.value (a.eval x)))→(QV regs x fun s=>K s H)→appArg op'=none→Ran P B E ⟨dst,op',type,pos,after,guard⟩ a K:=by
  intro x op' he h ha
  obtain ⟨s,hs,h⟩:=Yf hd h
  exact Zgq hI he hs h ha
 unfold opK at h
 split at h
 ·exact val _ rfl h rfl
 ·exact val _ rfl h rfl
 ·rename_i c x y
  obtain ⟨s,hs,h⟩:=Yf hd h
  split at h
  ·simp only [den] at hs
   obtain ⟨s',hs',h⟩:=Yf hd h
   exact Zgq hI (u:=a.eval x) (by simp [execOp,hs,asBool]) hs' h
  ·simp only [den] at hs
   obtain ⟨s',hs',h⟩:=Yf hd h
   exact Zgq hI (u:=a.eval y) (by simp [execOp,hs,asBool]) hs' h
  ·rename_i p
   simp only [den] at hs
   cases p
   ·obtain ⟨s',hs',h⟩:=Yf hd (h.2 rfl)
    exact Zgq hI (u:=a.eval y) (by simp [execOp,hs,asBool]) hs' h
   ·obtain ⟨s',hs',h⟩:=Yf hd (h.1 rfl)
    exact Zgq hI (u:=a.eval x) (by simp [execOp,hs,asBool]) hs' h
  ·exact h.elim
 ·obtain ⟨ti,ht,h⟩:=YV Δ hΔ h
  exact ZbK rfl rfl (Zrx hI ht h)
 ·obtain ⟨s,hs,h⟩:=Yf hd h
  exact ZbK rfl rfl (Zt6 hI hs h)
 ·rename_i T ps
  obtain ⟨ti,ht,h⟩:=YV Δ hΔ h
  obtain ⟨l,hl,h⟩:=ZmM hd _ h
  exact XU hI rfl (ZrE ht (by rw [Zpg];exact hl) h)
 ·rename_i T n ps
  obtain ⟨ti,ht,h⟩:=YV Δ hΔ h
  obtain ⟨l,hl,h⟩:=ZmM hd _ h
  exact ZbK rfl rfl (Zne hI ht (by rw [Zpg];exact hl) h)
 ·obtain ⟨ti,ht,h⟩:=YV Δ hΔ h
  obtain ⟨s,hs,h⟩:=Yf hd h
  exact Zsw hI rfl rfl (Ztr hI ht hs h)
 ·obtain ⟨ti,ht,h⟩:=YV Δ hΔ h
  obtain ⟨sa,hsa,h⟩:=Yf hd h
  obtain ⟨sx,hsx,h⟩:=Yf hd h
  obtain ⟨E',H',h1,h2,h3,h4⟩:=ZsK hI ht hsa hsx h
  exact ⟨.skip,undef,E',H',.tup [],by simp [execOp,h1],.inr ⟨rfl,rfl⟩,h2,h3,by simp only [den];exact ⟨[],rfl,trivial⟩,h4,fun e=>(by cases e),fun e=>(by cases e),ZkU rfl⟩
 ·obtain ⟨s0,hs0,h⟩:=Yf hd h
  obtain ⟨s,hs,h⟩:=ZrT hs0 h
  split at h
  ·rename_i hp
   rcases ZpZ hs hp with ⟨p,hv⟩ | ⟨f,cs,hv⟩
   ·exact Zgq hI (by simp [execOp,hv];rfl) (by rw [←hv];exact hs) h
   ·exact Zgq hI (by simp [execOp,hv];rfl) (by rw [←hv];exact hs) h
  ·exact h.elim
 ·obtain ⟨sx,hsx,h⟩:=Yf hd h
  obtain ⟨sy,hsy,h⟩:=Yf hd h
  obtain ⟨r,s,h1,h2,h3⟩:=Zs5 (P:=P) hΔ h hsx hsy _ _
  exact XU hI rfl ⟨r,s,h1,h2,h3⟩
 ·obtain ⟨sx,hsx,h⟩:=Yf hd h
  obtain ⟨r,s,h1,h2,h3⟩:=Zwq (P:=P) h hsx
  exact XU hI rfl ⟨r,s,h1,h2,h3⟩
 ·obtain ⟨ts,hts,h⟩:=YV Δ hΔ h
  obtain ⟨td,htd,h⟩:=YV Δ hΔ h
  obtain ⟨s,hs,h⟩:=Yf hd h
  split at h
  ·rename_i hk1 hk2
   obtain ⟨te,hte,h⟩:=YV Δ hΔ h
   obtain ⟨u,r,h1,h2,h3⟩:=ZrM (P:=P) hI hts hk1 htd hk2 hte hs h
   exact ZbK rfl rfl ⟨u,E,H,r,h1,hI,Env.le.refl E,h2,h3,Grow.refl _⟩
  ·obtain ⟨u,r,h1,h2,h3⟩:=Ztb (P:=P) hts htd hs h
   exact XU hI rfl ⟨u,r,h1,h2,h3⟩
 ·rename_i f first caps
  split at h
  ·rename_i hf
   obtain ⟨caps⟩:=caps
   obtain ⟨l,hl,h⟩:=Zi8 hd _ h
   have hf':first=#[]:=Array.eq_empty_of_size_eq_zero hf
   subst hf'
   refine XU hI rfl ⟨_,_,fun w=>rfl,?_,h⟩
   simp only [den]
   exact ⟨_,by simp,hl⟩
  ·exact h.elim
 ·obtain ⟨ti,ht,h⟩:=YV Δ hΔ h
  obtain ⟨sl,hsl,h⟩:=Yf hd h
  obtain ⟨sc,hsc,h⟩:=Yf hd h
  exact ZbK rfl rfl (Ztv hI ht hsl hsc h)
 ·obtain ⟨ti,ht,h⟩:=YV Δ hΔ h
  obtain ⟨s,hs,h⟩:=Yf hd h
  exact ZbK rfl rfl (ZsH hI hd ht hs h)
 ·obtain ⟨ti,ht,h⟩:=YV Δ hΔ h
  obtain ⟨s,hs,h⟩:=Yf hd h
  exact XU hI rfl (Zoq ht hs h)
 ·obtain ⟨ti,ht,h⟩:=YV Δ hΔ h
  obtain ⟨s,hs,h⟩:=Yf hd h
  exact XU hI rfl (ZrZ ht hs h)
 ·rename_i T x i
  obtain ⟨ti,ht,h⟩:=YV Δ hΔ h
  obtain ⟨s,hs,h⟩:=Yf hd h
  cases i with
  | const v =>
   obtain ⟨si,hsi,h⟩:∃ si,(∀ j,ZjW (.const v)=some j→∀ k i,si=.int k i→i=(j:Int))∧den E si v∧ZhF ti s si (.const v) H fun r=>K r H:=by
    have h':=h
    obtain ⟨si,hsi,h⟩:=Yf hd h
    have hsi':den E si v:=hsi
    refine ⟨si,fun j hj k i hsi2=>?_,hsi',h⟩
    subst hsi2
    simp only [den] at hsi'
    subst hsi'
    simp only [ZjW] at hj
    split at hj
    ·simp at hj;subst hj;rfl
    ·cases hj
   exact XU hI rfl (Zgd hI ht hs h.1 h.2 hsi)
  | tmp t =>
   obtain ⟨si,hsi,h⟩:=Yf hd h
   exact XU hI rfl (Zgd hI ht hs hsi h (fun j hj=>by simp [ZjW] at hj))
  | global g=>exact h.elim
  | func f =>
   obtain ⟨si,hsi,h⟩:=Yf hd h
   exact XU hI rfl (Zgd hI ht hs hsi h (fun j hj=>by simp [ZjW] at hj))
 ·obtain ⟨ti,ht,h⟩:=YV Δ hΔ h
  obtain ⟨s,hs,h⟩:=Yf hd h
  obtain ⟨si,hsi,h⟩:=Yf hd h
  obtain ⟨u,r,h1,h2,h3⟩:=ZsM (P:=P) ht hs hsi h
  exact XU hI rfl ⟨u,r,h1,h2,h3⟩
 ·obtain ⟨s,hs,h⟩:=Yf hd h
  obtain ⟨u,r,h1,h2,h3⟩:=Zvj (P:=P) hs h
  exact XU hI rfl ⟨u,r,h1,h2,h3⟩
 ·obtain ⟨ti,ht,h⟩:=YV Δ hΔ h
  exact ZbK rfl rfl (ZpW hI ht h)
 ·obtain ⟨ti,ht,h⟩:=YV Δ hΔ h
  obtain ⟨sx,hsx,h⟩:=Yf hd h
  obtain ⟨si,hsi,h⟩:=Yf hd h
  obtain ⟨u,r,h1,h2,h3⟩:=Zq5 (P:=P) hΔ hI ht hsx hsi h
  exact ZbK rfl rfl ⟨u,E,H,r,h1,hI,Env.le.refl E,h2,h3,Grow.refl _⟩
 ·obtain ⟨ti,ht,h⟩:=YV Δ hΔ h
  obtain ⟨sx,hsx,h⟩:=Yf hd h
  obtain ⟨si,hsi,h⟩:=Yf hd h
  obtain ⟨sy,hsy,h⟩:=Yf hd h
  obtain ⟨E',H',h1,h2,h3,h4⟩:=Zrl (P:=P) hΔ hI ht hsx hsi hsy h
  exact ⟨.skip,undef,E',H',.tup [],by simp [execOp,h1],.inr ⟨rfl,rfl⟩,h2,h3,by simp only [den];exact ⟨[],rfl,trivial⟩,h4,fun e=>(by cases e),fun e=>(by cases e),ZkU rfl⟩
 ·rename_i c
  obtain ⟨callee,args,argTypes⟩:=c
  obtain ⟨args⟩:=args
  obtain ⟨argTypes⟩:=argTypes
  simp only at h
  split at h
  ·rename_i x T
   obtain ⟨ti,ht,h⟩:=YV Δ hΔ h
   obtain ⟨s,hs,h⟩:=Yf hd h
   obtain ⟨u,r,h1,h2,h3⟩:=Zuq (ty:=type) hI ht hs h
   exact XU hI (x:=Builtin.len_ #[T] type #[a.eval x]) (by simp only [execOp,resolve,invoke,builtin,pure_bind,List.map_toArray,List.map_cons,List.map_nil]) ⟨u,r,h1,h2,h3⟩
  ·rename_i x y T T'
   split at h
   ·rename_i hTT;subst hTT
    obtain ⟨ti,ht,h⟩:=YV Δ hΔ h
    obtain ⟨sx,hsx,h⟩:=Yf hd h
    obtain ⟨sy,hsy,h⟩:=Yf hd h
    exact Zux (x:=Builtin.append_ #[T,T] type #[a.eval x,a.eval y]) (by simp only [execOp,resolve,invoke,builtin,pure_bind,List.map_toArray,List.map_cons,List.map_nil]) rfl rfl (ZqS (ty:=type) hI ht hsx hsy h)
   ·exact h.elim
  ·rename_i x r
   obtain ⟨s,hs,h⟩:=Yf hd h
   obtain ⟨l,hl,h⟩:=Zi8 hd _ h
   obtain ⟨u,r',h1,h2,h3⟩:=ZpX (P:=P) (mx:=false) l s _ _ hs hl h
   exact XU hI (x:=Builtin.min_ argTypes.toArray type ((x::r).toArray.map a.eval)) (by simp only [execOp,resolve,invoke,builtin,pure_bind]) ⟨u,r',fun w=>by simpa [Builtin.min_] using h1 w,h2,h3⟩
  ·rename_i x r
   obtain ⟨s,hs,h⟩:=Yf hd h
   obtain ⟨l,hl,h⟩:=Zi8 hd _ h
   obtain ⟨u,r',h1,h2,h3⟩:=ZpX (P:=P) (mx:=true) l s _ _ hs hl h
   exact XU hI (x:=Builtin.max_ argTypes.toArray type ((x::r).toArray.map a.eval)) (by simp only [execOp,resolve,invoke,builtin,pure_bind]) ⟨u,r',fun w=>by simpa [Builtin.max_] using h1 w,h2,h3⟩
  ·exact h.elim
 ·exact h.elim
end
end Go.Sx
