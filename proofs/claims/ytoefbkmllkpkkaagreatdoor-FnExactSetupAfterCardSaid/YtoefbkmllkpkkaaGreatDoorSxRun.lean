/-
  One operation that is no call of a Go function.
-/
import Derived.Test.YtoefbkmllkpkkaaGreatDoorSxMap
namespace Go.Sx
set_option linter.unusedVariables false
set_option linter.unusedSimpArgs false
section
variable {P:Program}
def ZwO (regs:List SV):List Operand→(List SV→Prop)→Prop
 | [],K=>K []
 | x::r,K=>Jk regs x fun s=>ZwO regs r fun l=>K (s::l)
theorem ZmK {E:Env} {regs:List SV} {a:Act} (hd:Yj E regs a.tmps.toList):∀ (xs:List Operand) {K:List SV→Prop},ZwO regs xs K→∃ l,Yj E l (xs.map a.eval)∧K l
 | [],K,h=>⟨[],trivial,h⟩
 | x::r,K,h=>by
  obtain ⟨s,hs,h⟩:=Yy hd h
  obtain ⟨l,hl,h⟩:=ZmK hd r h
  exact ⟨s::l,⟨hs,hl⟩,h⟩
def SV.ZBo:SV→Bool
 | .ptr _ _=>true
 | .oep _ _ _ _=>true
 | .fptr _=>true
 | .fn _ _=>true
 | _=>false
theorem Zve {E:Env} {s:SV} {v:Value} (h:den E s v) (hp:s.ZBo=true) :
  (∃ a,v=.pointer (some a))∨∃ f cs,v=.func (.func f) #[] cs:=by
 cases s<;>simp [SV.ZBo] at hp<;>simp only [den] at h
 case ptr=>obtain ⟨b,_,e⟩:=h;exact .inl ⟨_,e⟩
 case oep=>obtain ⟨b,bo,n,c,_,e⟩:=h;exact .inl ⟨_,e⟩
 case fptr=>obtain ⟨p,vs,e,_⟩:=h;exact .inl ⟨_,e⟩
 case fn=>obtain ⟨vs,e,_⟩:=h;exact .inr ⟨_,_,e⟩
def ZxB (s:SV) (K:SV→Prop):Prop :=
 match s with
 | .nptr t d=>∃ x,d=some x∧QV t x fun cs=>K (.fptr cs)
 | s=>K s
theorem Zy1 {E:Env} {s:SV} {v:Value} (hs:den E s v) {K:SV→Prop} (hk:ZxB s K):∃ s',den E s' v∧K s':=by
 unfold ZxB at hk
 split at hk
 ·rename_i t d
  obtain ⟨x,rfl,hk⟩:=hk
  rw [XM] at hk
  refine ⟨_,?_,hk⟩
  simp only [den] at hs ⊢
  rcases hs with ⟨e,_⟩ | ⟨x',p,xs,e,e2,hp,hS,hc,hr⟩
  ·cases e
  ·injection e with e;subst e
   simp at e2;subst e2
   exact ⟨p,xs,rfl,hp,hS,hc,Xq t _ _ hr⟩
 ·exact ⟨s,hs,hk⟩
def ZBy (Δ:Tab) (op:BinOp) (T:TypeId) (sx sy:SV) (K:SV→Prop):Prop :=
 match sx,sy with
 | .agg xs,.agg ys=>Zc6 Δ T fun ti=>eqK op ti (.agg xs) (.agg ys) K
 | .bool x,sy=>Zc6 Δ T fun ti=>eqK op ti (.bool x) sy K
 | .blit x,sy=>Zc6 Δ T fun ti=>eqK op ti (.blit x) sy K
 | sx,.nilp=>Zc6 Δ T fun ti=>if Zlp ti.kind=true then ZDB op ti sx K else False
 | sx,.nsl=>Zc6 Δ T fun ti=>if Zt3 ti.kind=true then ZDB op ti sx K else False
 | sx,sy=>ZF6 op sx sy K
theorem ZAn {Δ:Tab} (hΔ:Δ.ok P) {E:Env} {op:BinOp} {T:TypeId} {x y:SV} {K:SV→Prop} (h:ZBy Δ op T x y K) {u v:Value} (hu:den E x u) (hv:den E y v) (ox oy:Operand) :
  ∃ r s,(∀ w,((do eqGuard op T ox oy u v;binOp op T u v:Sem Value)).run P w=.ok r w)∧den E s r∧K s:=by
 unfold ZBy at h
 split at h
 ·obtain ⟨ti,ht,h⟩:=Xm Δ hΔ h;exact ZxZ ht h hu hv ox oy
 ·obtain ⟨ti,ht,h⟩:=Xm Δ hΔ h;exact ZxZ ht h hu hv ox oy
 ·obtain ⟨ti,ht,h⟩:=Xm Δ hΔ h;exact ZxZ ht h hu hv ox oy
 ·obtain ⟨ti,ht,h⟩:=Xm Δ hΔ h
  split at h
  ·rename_i hq
   exact Zyc ht (.inl rfl) h ⟨fun _=>rfl,fun hs=>by cases hk:ti.kind<;>rw [hk] at hq hs<;>simp [Zlp,Zt3] at hq hs⟩ hu hv ox oy
  ·exact h.elim
 ·obtain ⟨ti,ht,h⟩:=Xm Δ hΔ h
  split at h
  ·rename_i hq
   exact Zyc ht (.inr rfl) h ⟨fun hs=>by cases hk:ti.kind<;>rw [hk] at hq hs<;>simp [Zlp,Zt3] at hq hs,fun _=>rfl⟩ hu hv ox oy
  ·exact h.elim
 ·exact ZBq h hu hv T ox oy
def opK (Δ:Tab) (regs:List SV) (H:List Entry) (op:Op) (K:SV→List Entry→Prop):Prop :=
 match op with
 | .move x=>Jk regs x fun s=>K s H
 | .assign x=>Jk regs x fun s=>K s H
 | .pick c x y=>Jk regs c fun s=>match s with
  | .blit true=>Jk regs x fun s=>K s H
  | .blit false=>Jk regs y fun s=>K s H
  | .bool p=>(p=true→Jk regs x fun s=>K s H)∧(p=false→Jk regs y fun s=>K s H)
  | _=>False
 | .alloc T=>Zc6 Δ T fun ti=>ZBf ti H K
 | .box _ x=>Jk regs x fun s=>ZGJ s H K
 | .build T ps=>Zc6 Δ T fun ti=>Zwv regs ps.toList fun l=>Zx0 ti l fun s=>K s H
 | .buildSlice T n ps=>Zc6 Δ T fun ti=>Zwv regs ps.toList fun l=>ZlU ti n l H K
 | .load T x=>Zc6 Δ T fun ti=>Jk regs x fun s=>ZBY ti s H K
 | .store T x y=>Zc6 Δ T fun ti=>Jk regs x fun sa=>Jk regs y fun sx=>ZxN ti sa sx H fun H'=>K (.tup []) H'
 | .nilCheck x=>Jk regs x fun s=>ZxB s fun s'=>if s'.ZBo=true then K s' H else False
 | .binOp op T x y _=>Jk regs x fun sx=>Jk regs y fun sy=>ZBy Δ op T sx sy fun s=>K s H
 | .unOp op _ x=>Jk regs x fun sx=>unK op sx fun s=>K s H
 | .convert S T x=>Zc6 Δ S fun ts=>Zc6 Δ T fun td=>Jk regs x fun s=>match ts.kind,td.kind with
  | .sl,.str=>Zc6 Δ ts.elem fun te=>ZxA te s H fun r=>K r H
  | _,_=>ZBE ts td s H fun r=>K r H
 | .makeFunc (.func f) first caps=>if first.size=0 then ZwO regs caps.toList fun l=>K (.fn f l) H else False
 | .makeSlice T l c=>Zc6 Δ T fun ti=>Jk regs l fun sl=>Jk regs c fun sc=>ZBC ti sl sc H K
 | .slice T x lo hi none=>Zc6 Δ T fun ti=>Jk regs x fun s=>Zys ti regs s lo hi H K
 | .fieldAddr T x f=>Zc6 Δ T fun ti=>Jk regs x fun s=>Zn5 ti s f fun r=>K r H
 | .field T x f=>Zc6 Δ T fun ti=>Jk regs x fun s=>Zxm ti s f fun r=>K r H
 | .indexAddr T x i=>Zc6 Δ T fun ti=>Jk regs x fun s=>Jk regs i fun si=>ZkW ti s si i H fun r=>K r H
 | .index T x i=>Zc6 Δ T fun ti=>Jk regs x fun s=>Jk regs i fun si=>Zxq ti s si fun r=>K r H
 | .extract x i=>Jk regs x fun s=>ZEL s i fun r=>K r H
 | .makeMap T none=>Zc6 Δ T fun ti=>ZsU ti H K
 | .lookup T x i ok=>Zc6 Δ T fun ti=>Jk regs x fun sx=>Jk regs i fun si=>ZvL Δ ti sx si ok H fun r=>K r H
 | .mapUpdate T x i y=>Zc6 Δ T fun ti=>Jk regs x fun sx=>Jk regs i fun si=>Jk regs y fun sy=>Zvi Δ ti sx si sy H fun H'=>K (.tup []) H'
 | .call c=>match c.callee,c.args.toList,c.argTypes.toList with
  | .builtin .len,[x],[T]=>Zc6 Δ T fun ti=>Jk regs x fun s=>ZED ti s H fun r=>K r H
  | .builtin .append,[x,y],[T,T']=>if T=T' then Zc6 Δ T fun ti=>Jk regs x fun sx=>Jk regs y fun sy=>Zvp ti sx sy H K else False
  | .builtin .min,x::r,_=>Jk regs x fun s=>ZwO regs r fun l=>ZCK false s l fun r=>K r H
  | .builtin .max,x::r,_=>Jk regs x fun s=>ZwO regs r fun l=>ZCK true s l fun r=>K r H
  | _,_,_=>False
 | _=>False
def Zbs:Op→Bool
 | .move _=>true
 | .assign _=>true
 | .pick _ _ _=>true
 | .build _ _=>true
 | .load _ _=>true
 | .nilCheck _=>true
 | .binOp _ _ _ _ _=>true
 | .unOp _ _ _=>true
 | .fieldAddr _ _ _=>true
 | .field _ _ _=>true
 | .indexAddr _ _ _=>true
 | .index _ _ _=>true
 | .extract _ _=>true
 | .makeFunc _ _ _=>true
 | .call c=>match c.callee with
  | .builtin .len=>true
  | .builtin .min=>true
  | .builtin .max=>true
  | _=>false
 | _=>false
def isLoad:Op→Bool
 | .load _ _=>true
 | _=>false
def ZmR:Op→Bool
 | .alloc _=>true
 | .box _ _=>true
 | .buildSlice _ _ _=>true
 | .makeSlice _ _ _=>true
 | .slice _ _ _ _ _=>true
 | .convert _ _ _=>true
 | .makeMap _ _=>true
 | _=>false
def appArg:Op→Option Operand
 | .call ⟨.builtin .append,args,_⟩=>args.toList.head?
 | _=>none
def Ran (P:Program) (B:Base) (E:Env) (o:Oper) (a:Act) (K:SV→List Entry→Prop):Prop :=
 ∃ nx v E' H' s,(execOp a.eval o).run P E.w=.ok nx E'.w∧(nx=.value v∨nx=.skip∧v=undef)∧Inv B E' H'∧E.le E'∧den E' s v∧K s H'∧
  (Zbs o.op=true→nx=.value v∧E'.w=E.w∧∀ w',(isLoad o.op=true→Ztr E.w w')→(execOp a.eval o).run P w'=.ok (.value v) w')∧((Zbs o.op||ZmR o.op)=true→Grow E.w E'.w)∧∀ x,appArg o.op=some x→E.w.grownBy E'.w (a.eval x).ownBlock
theorem Zo4 {op:Op} {p:Operand→Prop} (ha:appArg op=none):∀ x,appArg op=some x→p x:=fun x e=>by rw [ha] at e;cases e
theorem ZxH {B:Base} {E:Env} {H:List Entry} (hI:Inv B E H) {o:Oper} {a:Act} {K:SV→List Entry→Prop} {x:Sem Value} (he:execOp a.eval o=(do pure (.value (←x)):Sem Next)) (hl:isLoad o.op=true)
  (h:∃ u s E' H',E'.w=E.w∧ZAC P E.w x u∧Inv B E' H'∧E.le E'∧den E' s u∧K s H') (ha:appArg o.op=none:=by rfl):Ran P B E o a K:=by
 obtain ⟨u,s,E',H',hw,h1,h2,h2',h3,h3'⟩:=h
 have h4:∀ w',Ztr E.w w'→(execOp a.eval o).run P w'=.ok (.value u) w':=fun w' hst=>by rw [he,Sem.run_bind,h1 w' hst];rfl
 exact ⟨_,u,E',H',s,by rw [hw];exact h4 _ (Ztr.refl _),.inl rfl,h2,h2',h3,h3',fun _=>⟨rfl,hw,fun w' h=>h4 w' (h hl)⟩,fun _=>by rw [hw];exact Grow.refl _,Zo4 ha⟩
theorem QL {B:Base} {E:Env} {H:List Entry} (hI:Inv B E H) {o:Oper} {a:Act} {K:SV→List Entry→Prop} {x:Sem Value} (he:execOp a.eval o=(do pure (.value (←x)):Sem Next))
  (h:∃ u s,ZrM P x u∧den E s u∧K s H) (ha:appArg o.op=none:=by rfl):Ran P B E o a K:=by
 obtain ⟨u,s,h1,h2,h3⟩:=h
 have h4:∀ w',(execOp a.eval o).run P w'=.ok (.value u) w':=fun w'=>by rw [he,Sem.run_bind,h1 w'];rfl
 exact ⟨_,u,E,H,s,h4 _,.inl rfl,hI,Env.le.refl E,h2,h3,fun _=>⟨rfl,rfl,fun w' _=>h4 w'⟩,fun _=>Grow.refl _,Zo4 ha⟩
theorem ZiZ {B:Base} {E:Env} {H:List Entry} (hI:Inv B E H) {o:Oper} {a:Act} {K:SV→List Entry→Prop} {u:Value} {s:SV} (he:execOp a.eval o=(pure (.value u):Sem Next))
  (h2:den E s u) (h3:K s H) (ha:appArg o.op=none:=by rfl):Ran P B E o a K :=
 ⟨_,u,E,H,s,by rw [he];rfl,.inl rfl,hI,Env.le.refl E,h2,h3,fun _=>⟨rfl,rfl,fun w' _=>by rw [he];rfl⟩,fun _=>Grow.refl _,Zo4 ha⟩
theorem ZdP {B:Base} {E:Env} {o:Oper} {a:Act} {K:SV→List Entry→Prop} {x:Sem Value} (he:execOp a.eval o=(do pure (.value (←x)):Sem Next)) (hl:Zbs o.op=false)
  (h:∃ u E' H' s,x.run P E.w=.ok u E'.w∧Inv B E' H'∧E.le E'∧den E' s u∧K s H'∧Grow E.w E'.w) (ha:appArg o.op=none:=by rfl):Ran P B E o a K:=by
 obtain ⟨u,E',H',s,h1,h2,h3,h4,h5,h6⟩:=h
 exact ⟨_,u,E',H',s,by rw [he,Sem.run_bind,h1];rfl,.inl rfl,h2,h3,h4,h5,fun e=>(by rw [hl] at e;cases e),fun _=>h6,Zo4 ha⟩
theorem ZCe {B:Base} {E:Env} {o:Oper} {a:Act} {K:SV→List Entry→Prop} {x:Sem Value} (he:execOp a.eval o=(do pure (.value (←x)):Sem Next)) (hl:(Zbs o.op||ZmR o.op)=false)
  (h:∃ u E' H' s,x.run P E.w=.ok u E'.w∧Inv B E' H'∧E.le E'∧den E' s u∧K s H') (ha:appArg o.op=none:=by rfl):Ran P B E o a K:=by
 obtain ⟨u,E',H',s,h1,h2,h3,h4,h5⟩:=h
 have hl':Zbs o.op=false:=by cases h:Zbs o.op<;>simp [h] at hl ⊢
 exact ⟨_,u,E',H',s,by rw [he,Sem.run_bind,h1];rfl,.inl rfl,h2,h3,h4,h5,fun e=>(by rw [hl'] at e;cases e),fun e=>(by rw [hl] at e;cases e),Zo4 ha⟩
theorem ZBB {B:Base} {E:Env} {o:Oper} {a:Act} {K:SV→List Entry→Prop} {x:Sem Value} {r:Operand} (he:execOp a.eval o=(do pure (.value (←x)):Sem Next)) (hl:(Zbs o.op||ZmR o.op)=false) (ha:appArg o.op=some r)
  (h:∃ u E' H' s,x.run P E.w=.ok u E'.w∧Inv B E' H'∧E.le E'∧den E' s u∧K s H'∧E.w.grownBy E'.w (a.eval r).ownBlock):Ran P B E o a K:=by
 obtain ⟨u,E',H',s,h1,h2,h3,h4,h5,h6⟩:=h
 have hl':Zbs o.op=false:=by cases h:Zbs o.op<;>simp [h] at hl ⊢
 exact ⟨_,u,E',H',s,by rw [he,Sem.run_bind,h1];rfl,.inl rfl,h2,h3,h4,h5,fun e=>(by rw [hl'] at e;cases e),fun e=>(by rw [hl] at e;cases e),fun x hx=>by rw [ha] at hx;injection hx with hx;subst hx;exact h6⟩
theorem Zt4 (a:Act) (ps:Array (Nat×Operand)):(ps.map fun x=>(x.1,a.eval x.2)).toList=ps.toList.map fun x=>(x.1,a.eval x.2):=by simp
theorem ZyF {Δ:Tab} (hΔ:Δ.ok P) {B:Base} {E:Env} {H:List Entry} (hI:Inv B E H) {regs:List SV} {a:Act} (hd:Yj E regs a.tmps.toList) {o:Oper} {K:SV→List Entry→Prop}
  (h:opK Δ regs H o.op K):Ran P B E o a K:=by
 obtain ⟨dst,op,type,pos,after,guard⟩:=o
 simp only at h
 have val:∀ {x:Operand} (op':Op),(execOp a.eval ⟨dst,op',type,pos,after,guard⟩=pure (.value (a.eval x)))→(Jk regs x fun s=>K s H)→appArg op'=none→Ran P B E ⟨dst,op',type,pos,after,guard⟩ a K:=by
  intro x op' he h ha
  obtain ⟨s,hs,h⟩:=Yy hd h
  exact ZiZ hI he hs h ha
 unfold opK at h
 split at h
 ·exact val _ rfl h rfl
 ·exact val _ rfl h rfl
 ·rename_i c x y
  obtain ⟨s,hs,h⟩:=Yy hd h
  split at h
  ·simp only [den] at hs
   obtain ⟨s',hs',h⟩:=Yy hd h
   exact ZiZ hI (u:=a.eval x) (by simp [execOp,hs,asBool]) hs' h
  ·simp only [den] at hs
   obtain ⟨s',hs',h⟩:=Yy hd h
   exact ZiZ hI (u:=a.eval y) (by simp [execOp,hs,asBool]) hs' h
  ·rename_i p
   simp only [den] at hs
   cases p
   ·obtain ⟨s',hs',h⟩:=Yy hd (h.2 rfl)
    exact ZiZ hI (u:=a.eval y) (by simp [execOp,hs,asBool]) hs' h
   ·obtain ⟨s',hs',h⟩:=Yy hd (h.1 rfl)
    exact ZiZ hI (u:=a.eval x) (by simp [execOp,hs,asBool]) hs' h
  ·exact h.elim
 ·obtain ⟨ti,ht,h⟩:=Xm Δ hΔ h
  exact ZdP rfl rfl (Zy2 hI ht h)
 ·obtain ⟨s,hs,h⟩:=Yy hd h
  exact ZdP rfl rfl (ZB1 hI hs h)
 ·rename_i T ps
  obtain ⟨ti,ht,h⟩:=Xm Δ hΔ h
  obtain ⟨l,hl,h⟩:=ZqW hd _ h
  exact QL hI rfl (Zy5 ht (by rw [Zt4];exact hl) h)
 ·rename_i T n ps
  obtain ⟨ti,ht,h⟩:=Xm Δ hΔ h
  obtain ⟨l,hl,h⟩:=ZqW hd _ h
  exact ZdP rfl rfl (ZrP hI ht (by rw [Zt4];exact hl) h)
 ·obtain ⟨ti,ht,h⟩:=Xm Δ hΔ h
  obtain ⟨s,hs,h⟩:=Yy hd h
  exact ZxH hI rfl rfl (ZAu hI ht hs h)
 ·obtain ⟨ti,ht,h⟩:=Xm Δ hΔ h
  obtain ⟨sa,hsa,h⟩:=Yy hd h
  obtain ⟨sx,hsx,h⟩:=Yy hd h
  obtain ⟨E',H',h1,h2,h3,h4⟩:=ZyX hI ht hsa hsx h
  exact ⟨.skip,undef,E',H',.tup [],by simp [execOp,h1],.inr ⟨rfl,rfl⟩,h2,h3,by simp only [den];exact ⟨[],rfl,trivial⟩,h4,fun e=>(by cases e),fun e=>(by cases e),Zo4 rfl⟩
 ·obtain ⟨s0,hs0,h⟩:=Yy hd h
  obtain ⟨s,hs,h⟩:=Zy1 hs0 h
  split at h
  ·rename_i hp
   rcases Zve hs hp with ⟨p,hv⟩ | ⟨f,cs,hv⟩
   ·exact ZiZ hI (by simp [execOp,hv];rfl) (by rw [←hv];exact hs) h
   ·exact ZiZ hI (by simp [execOp,hv];rfl) (by rw [←hv];exact hs) h
  ·exact h.elim
 ·obtain ⟨sx,hsx,h⟩:=Yy hd h
  obtain ⟨sy,hsy,h⟩:=Yy hd h
  obtain ⟨r,s,h1,h2,h3⟩:=ZAn (P:=P) hΔ h hsx hsy _ _
  exact QL hI rfl ⟨r,s,h1,h2,h3⟩
 ·obtain ⟨sx,hsx,h⟩:=Yy hd h
  obtain ⟨r,s,h1,h2,h3⟩:=ZC4 (P:=P) h hsx
  exact QL hI rfl ⟨r,s,h1,h2,h3⟩
 ·obtain ⟨ts,hts,h⟩:=Xm Δ hΔ h
  obtain ⟨td,htd,h⟩:=Xm Δ hΔ h
  obtain ⟨s,hs,h⟩:=Yy hd h
  split at h
  ·rename_i hk1 hk2
   obtain ⟨te,hte,h⟩:=Xm Δ hΔ h
   obtain ⟨u,r,h1,h2,h3⟩:=Zxs (P:=P) hI hts hk1 htd hk2 hte hs h
   exact ZdP rfl rfl ⟨u,E,H,r,h1,hI,Env.le.refl E,h2,h3,Grow.refl _⟩
  ·obtain ⟨u,r,h1,h2,h3⟩:=ZAQ (P:=P) hts htd hs h
   exact QL hI rfl ⟨u,r,h1,h2,h3⟩
 ·rename_i f first caps
  split at h
  ·rename_i hf
   obtain ⟨caps⟩:=caps
   obtain ⟨l,hl,h⟩:=ZmK hd _ h
   have hf':first=#[]:=Array.eq_empty_of_size_eq_zero hf
   subst hf'
   refine QL hI rfl ⟨_,_,fun w=>rfl,?_,h⟩
   simp only [den]
   exact ⟨_,by simp,hl⟩
  ·exact h.elim
 ·obtain ⟨ti,ht,h⟩:=Xm Δ hΔ h
  obtain ⟨sl,hsl,h⟩:=Yy hd h
  obtain ⟨sc,hsc,h⟩:=Yy hd h
  exact ZdP rfl rfl (Zzf hI ht hsl hsc h)
 ·obtain ⟨ti,ht,h⟩:=Xm Δ hΔ h
  obtain ⟨s,hs,h⟩:=Yy hd h
  exact ZdP rfl rfl (Zyk hI hd ht hs h)
 ·obtain ⟨ti,ht,h⟩:=Xm Δ hΔ h
  obtain ⟨s,hs,h⟩:=Yy hd h
  exact QL hI rfl (Ztu ht hs h)
 ·obtain ⟨ti,ht,h⟩:=Xm Δ hΔ h
  obtain ⟨s,hs,h⟩:=Yy hd h
  exact QL hI rfl (ZyV ht hs h)
 ·rename_i T x i
  obtain ⟨ti,ht,h⟩:=Xm Δ hΔ h
  obtain ⟨s,hs,h⟩:=Yy hd h
  cases i with
  | const v =>
   obtain ⟨si,hsi,h⟩:∃ si,(∀ j,ZoI (.const v)=some j→∀ k i,si=.int k i→i=(j:Int))∧den E si v∧ZkW ti s si (.const v) H fun r=>K r H:=by
    have h':=h
    obtain ⟨si,hsi,h⟩:=Yy hd h
    have hsi':den E si v:=hsi
    refine ⟨si,fun j hj k i hsi2=>?_,hsi',h⟩
    subst hsi2
    simp only [den] at hsi'
    subst hsi'
    simp only [ZoI] at hj
    split at hj
    ·simp at hj;subst hj;rfl
    ·cases hj
   exact QL hI rfl (ZiX hI ht hs h.1 h.2 hsi)
  | tmp t =>
   obtain ⟨si,hsi,h⟩:=Yy hd h
   exact QL hI rfl (ZiX hI ht hs hsi h (fun j hj=>by simp [ZoI] at hj))
  | global g=>exact h.elim
  | func f =>
   obtain ⟨si,hsi,h⟩:=Yy hd h
   exact QL hI rfl (ZiX hI ht hs hsi h (fun j hj=>by simp [ZoI] at hj))
 ·obtain ⟨ti,ht,h⟩:=Xm Δ hΔ h
  obtain ⟨s,hs,h⟩:=Yy hd h
  obtain ⟨si,hsi,h⟩:=Yy hd h
  obtain ⟨u,r,h1,h2,h3⟩:=Zyf (P:=P) ht hs hsi h
  exact QL hI rfl ⟨u,r,h1,h2,h3⟩
 ·obtain ⟨s,hs,h⟩:=Yy hd h
  obtain ⟨u,r,h1,h2,h3⟩:=ZBG (P:=P) hs h
  exact QL hI rfl ⟨u,r,h1,h2,h3⟩
 ·obtain ⟨ti,ht,h⟩:=Xm Δ hΔ h
  exact ZdP rfl rfl (ZvF hI ht h)
 ·obtain ⟨ti,ht,h⟩:=Xm Δ hΔ h
  obtain ⟨sx,hsx,h⟩:=Yy hd h
  obtain ⟨si,hsi,h⟩:=Yy hd h
  obtain ⟨u,r,h1,h2,h3⟩:=ZwS (P:=P) hΔ hI ht hsx hsi h
  exact ZdP rfl rfl ⟨u,E,H,r,h1,hI,Env.le.refl E,h2,h3,Grow.refl _⟩
 ·obtain ⟨ti,ht,h⟩:=Xm Δ hΔ h
  obtain ⟨sx,hsx,h⟩:=Yy hd h
  obtain ⟨si,hsi,h⟩:=Yy hd h
  obtain ⟨sy,hsy,h⟩:=Yy hd h
  obtain ⟨E',H',h1,h2,h3,h4⟩:=ZwU (P:=P) hΔ hI ht hsx hsi hsy h
  exact ⟨.skip,undef,E',H',.tup [],by simp [execOp,h1],.inr ⟨rfl,rfl⟩,h2,h3,by simp only [den];exact ⟨[],rfl,trivial⟩,h4,fun e=>(by cases e),fun e=>(by cases e),Zo4 rfl⟩
 ·rename_i c
  obtain ⟨callee,args,argTypes⟩:=c
  obtain ⟨args⟩:=args
  obtain ⟨argTypes⟩:=argTypes
  simp only at h
  split at h
  ·rename_i x T
   obtain ⟨ti,ht,h⟩:=Xm Δ hΔ h
   obtain ⟨s,hs,h⟩:=Yy hd h
   obtain ⟨u,r,h1,h2,h3⟩:=ZBn (ty:=type) hI ht hs h
   exact QL hI (x:=Builtin.len_ #[T] type #[a.eval x]) (by simp only [execOp,resolve,invoke,builtin,pure_bind,List.map_toArray,List.map_cons,List.map_nil]) ⟨u,r,h1,h2,h3⟩
  ·rename_i x y T T'
   split at h
   ·rename_i hTT;subst hTT
    obtain ⟨ti,ht,h⟩:=Xm Δ hΔ h
    obtain ⟨sx,hsx,h⟩:=Yy hd h
    obtain ⟨sy,hsy,h⟩:=Yy hd h
    exact ZBB (x:=Builtin.append_ #[T,T] type #[a.eval x,a.eval y]) (by simp only [execOp,resolve,invoke,builtin,pure_bind,List.map_toArray,List.map_cons,List.map_nil]) rfl rfl (ZwV (ty:=type) hI ht hsx hsy h)
   ·exact h.elim
  ·rename_i x r
   obtain ⟨s,hs,h⟩:=Yy hd h
   obtain ⟨l,hl,h⟩:=ZmK hd _ h
   obtain ⟨u,r',h1,h2,h3⟩:=Zvt (P:=P) (mx:=false) l s _ _ hs hl h
   exact QL hI (x:=Builtin.min_ argTypes.toArray type ((x::r).toArray.map a.eval)) (by simp only [execOp,resolve,invoke,builtin,pure_bind]) ⟨u,r',fun w=>by simpa [Builtin.min_] using h1 w,h2,h3⟩
  ·rename_i x r
   obtain ⟨s,hs,h⟩:=Yy hd h
   obtain ⟨l,hl,h⟩:=ZmK hd _ h
   obtain ⟨u,r',h1,h2,h3⟩:=Zvt (P:=P) (mx:=true) l s _ _ hs hl h
   exact QL hI (x:=Builtin.max_ argTypes.toArray type ((x::r).toArray.map a.eval)) (by simp only [execOp,resolve,invoke,builtin,pure_bind]) ⟨u,r',fun w=>by simpa [Builtin.max_] using h1 w,h2,h3⟩
  ·exact h.elim
 ·exact h.elim
end
end Go.Sx
