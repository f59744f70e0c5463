/-
  One operation that is no call of a Go function.
-/
import Derived.Test.YtfndhpjedmopdaaGreatDoorSxMap
namespace Go.Sx
set_option linter.unusedVariables false
set_option linter.unusedSimpArgs false
section
variable {P:Program}
def Zts (regs:List SV):List Operand→(List SV→Prop)→Prop
 | [],K=>K []
 | x::r,K=>J2 regs x fun s=>Zts regs r fun l=>K (s::l)
theorem ZkS {E:Env} {regs:List SV} {a:Act} (hd:Yc E regs a.tmps.toList):∀ (xs:List Operand) {K:List SV→Prop},Zts regs xs K→∃ l,Yc E l (xs.map a.eval)∧K l
 | [],K,h=>⟨[],trivial,h⟩
 | x::r,K,h=>by
  obtain ⟨s,hs,h⟩:=Yr hd h
  obtain ⟨l,hl,h⟩:=ZkS hd r h
  exact ⟨s::l,⟨hs,hl⟩,h⟩
def SV.Zw4:SV→Bool
 | .ptr _ _=>true
 | .oep _ _ _ _=>true
 | .fptr _=>true
 | .fn _ _=>true
 | _=>false
theorem Zsb {E:Env} {s:SV} {v:Value} (h:den E s v) (hp:s.Zw4=true) :
  (∃ a,v=.pointer (some a))∨∃ f cs,v=.func (.func f) #[] cs:=by
 cases s<;>simp [SV.Zw4] at hp<;>simp only [den] at h
 case ptr=>obtain ⟨b,_,e⟩:=h;exact .inl ⟨_,e⟩
 case oep=>obtain ⟨b,bo,n,c,_,e⟩:=h;exact .inl ⟨_,e⟩
 case fptr=>obtain ⟨p,vs,e,_⟩:=h;exact .inl ⟨_,e⟩
 case fn=>obtain ⟨vs,e,_⟩:=h;exact .inr ⟨_,_,e⟩
def Zt9 (s:SV) (K:SV→Prop):Prop :=
 match s with
 | .nptr t d=>∃ x,d=some x∧Vn t x fun cs=>K (.fptr cs)
 | s=>K s
theorem Zvi {E:Env} {s:SV} {v:Value} (hs:den E s v) {K:SV→Prop} (hk:Zt9 s K):∃ s',den E s' v∧K s':=by
 unfold Zt9 at hk
 split at hk
 ·rename_i t d
  obtain ⟨x,rfl,hk⟩:=hk
  rw [XM] at hk
  refine ⟨_,?_,hk⟩
  simp only [den] at hs ⊢
  rcases hs with ⟨e,_⟩ | ⟨x',p,xs,e,e2,hp,hS,hc,hr⟩
  ·cases e
  ·injection e with e;subst e
   simp at e2;subst e2
   exact ⟨p,xs,rfl,hp,hS,hc,Xh t _ _ hr⟩
 ·exact ⟨s,hs,hk⟩
def ZxA (Δ:Tab) (op:BinOp) (T:TypeId) (sx sy:SV) (K:SV→Prop):Prop :=
 match sx,sy with
 | .agg xs,.agg ys=>Zc1 Δ T fun ti=>eqK op ti (.agg xs) (.agg ys) K
 | .bool x,sy=>Zc1 Δ T fun ti=>eqK op ti (.bool x) sy K
 | .blit x,sy=>Zc1 Δ T fun ti=>eqK op ti (.blit x) sy K
 | sx,.nilp=>Zc1 Δ T fun ti=>if Zjp ti.kind=true then Zy9 op ti sx K else False
 | sx,.nsl=>Zc1 Δ T fun ti=>if Zqz ti.kind=true then Zy9 op ti sx K else False
 | sx,sy=>ZAf op sx sy K
theorem Zv8 {Δ:Tab} (hΔ:Δ.ok P) {E:Env} {op:BinOp} {T:TypeId} {x y:SV} {K:SV→Prop} (h:ZxA Δ op T x y K) {u v:Value} (hu:den E x u) (hv:den E y v) (ox oy:Operand) :
  ∃ r s,(∀ w,((do eqGuard op T ox oy u v;binOp op T u v:Sem Value)).run P w=.ok r w)∧den E s r∧K s:=by
 unfold ZxA at h
 split at h
 ·obtain ⟨ti,ht,h⟩:=Xe Δ hΔ h;exact ZtZ ht h hu hv ox oy
 ·obtain ⟨ti,ht,h⟩:=Xe Δ hΔ h;exact ZtZ ht h hu hv ox oy
 ·obtain ⟨ti,ht,h⟩:=Xe Δ hΔ h;exact ZtZ ht h hu hv ox oy
 ·obtain ⟨ti,ht,h⟩:=Xe Δ hΔ h
  split at h
  ·rename_i hq
   exact Zuo ht (.inl rfl) h ⟨fun _=>rfl,fun hs=>by cases hk:ti.kind<;>rw [hk] at hq hs<;>simp [Zjp,Zqz] at hq hs⟩ hu hv ox oy
  ·exact h.elim
 ·obtain ⟨ti,ht,h⟩:=Xe Δ hΔ h
  split at h
  ·rename_i hq
   exact Zuo ht (.inr rfl) h ⟨fun hs=>by cases hk:ti.kind<;>rw [hk] at hq hs<;>simp [Zjp,Zqz] at hq hs,fun _=>rfl⟩ hu hv ox oy
  ·exact h.elim
 ·exact Zxg h hu hv T ox oy
def opK (Δ:Tab) (regs:List SV) (H:List Entry) (op:Op) (K:SV→List Entry→Prop):Prop :=
 match op with
 | .move x=>J2 regs x fun s=>K s H
 | .assign x=>J2 regs x fun s=>K s H
 | .pick c x y=>J2 regs c fun s=>match s with
  | .blit true=>J2 regs x fun s=>K s H
  | .blit false=>J2 regs y fun s=>K s H
  | .bool p=>(p=true→J2 regs x fun s=>K s H)∧(p=false→J2 regs y fun s=>K s H)
  | _=>False
 | .alloc T=>Zc1 Δ T fun ti=>ZwY ti H K
 | .box _ x=>J2 regs x fun s=>ZAv s H K
 | .build T ps=>Zc1 Δ T fun ti=>ZsU regs ps.toList fun l=>ZtK ti l fun s=>K s H
 | .buildSlice T n ps=>Zc1 Δ T fun ti=>ZsU regs ps.toList fun l=>ZjK ti n l H K
 | .load T x=>Zc1 Δ T fun ti=>J2 regs x fun s=>Zw3 ti s H K
 | .store T x y=>Zc1 Δ T fun ti=>J2 regs x fun sa=>J2 regs y fun sx=>ZtP ti sa sx H fun H'=>K (.tup []) H'
 | .nilCheck x=>J2 regs x fun s=>Zt9 s fun s'=>if s'.Zw4=true then K s' H else False
 | .binOp op T x y _=>J2 regs x fun sx=>J2 regs y fun sy=>ZxA Δ op T sx sy fun s=>K s H
 | .unOp op _ x=>J2 regs x fun sx=>unK op sx fun s=>K s H
 | .convert S T x=>Zc1 Δ S fun ts=>Zc1 Δ T fun td=>J2 regs x fun s=>match ts.kind,td.kind with
  | .sl,.str=>Zc1 Δ ts.elem fun te=>ZtM te s H fun r=>K r H
  | _,_=>ZxB ts td s H fun r=>K r H
 | .makeFunc (.func f) first caps=>if first.size=0 then Zts regs caps.toList fun l=>K (.fn f l) H else False
 | .makeSlice T l c=>Zc1 Δ T fun ti=>J2 regs l fun sl=>J2 regs c fun sc=>Zxv ti sl sc H K
 | .slice T x lo hi none=>Zc1 Δ T fun ti=>J2 regs x fun s=>ZuD ti regs s lo hi H K
 | .fieldAddr T x f=>Zc1 Δ T fun ti=>J2 regs x fun s=>ZlF ti s f fun r=>K r H
 | .field T x f=>Zc1 Δ T fun ti=>J2 regs x fun s=>Zu2 ti s f fun r=>K r H
 | .indexAddr T x i=>Zc1 Δ T fun ti=>J2 regs x fun s=>J2 regs i fun si=>ZiQ ti s si i H fun r=>K r H
 | .index T x i=>Zc1 Δ T fun ti=>J2 regs x fun s=>J2 regs i fun si=>Zud ti s si fun r=>K r H
 | .extract x i=>J2 regs x fun s=>ZA5 s i fun r=>K r H
 | .makeMap T none=>Zc1 Δ T fun ti=>Zpz ti H K
 | .lookup T x i ok=>Zc1 Δ T fun ti=>J2 regs x fun sx=>J2 regs i fun si=>Zr6 Δ ti sx si ok H fun r=>K r H
 | .mapUpdate T x i y=>Zc1 Δ T fun ti=>J2 regs x fun sx=>J2 regs i fun si=>J2 regs y fun sy=>Zr5 Δ ti sx si sy H fun H'=>K (.tup []) H'
 | .call c=>match c.callee,c.args.toList,c.argTypes.toList with
  | .builtin .len,[x],[T]=>Zc1 Δ T fun ti=>J2 regs x fun s=>ZA1 ti s H fun r=>K r H
  | .builtin .append,[x,y],[T,T']=>if T=T' then Zc1 Δ T fun ti=>J2 regs x fun sx=>J2 regs y fun sy=>Zrk ti sx sy H K else False
  | .builtin .min,x::r,_=>J2 regs x fun s=>Zts regs r fun l=>ZyO false s l fun r=>K r H
  | .builtin .max,x::r,_=>J2 regs x fun s=>Zts regs r fun l=>ZyO true s l fun r=>K r H
  | _,_,_=>False
 | _=>False
def ZbP:Op→Bool
 | .move _=>true
 | .assign _=>true
 | .pick _ _ _=>true
 | .build _ _=>true
 | .load _ _=>true
 | .nilCheck _=>true
 | .binOp _ _ _ _ _=>true
 | .unOp _ _ _=>true
 | .fieldAddr _ _ _=>true
 | .field _ _ _=>true
 | .indexAddr _ _ _=>true
 | .index _ _ _=>true
 | .extract _ _=>true
 | .makeFunc _ _ _=>true
 | .call c=>match c.callee with
  | .builtin .len=>true
  | .builtin .min=>true
  | .builtin .max=>true
  | _=>false
 | _=>false
def isLoad:Op→Bool
 | .load _ _=>true
 | _=>false
def Zkd:Op→Bool
 | .alloc _=>true
 | .box _ _=>true
 | .buildSlice _ _ _=>true
 | .makeSlice _ _ _=>true
 | .slice _ _ _ _ _=>true
 | .convert _ _ _=>true
 | .makeMap _ _=>true
 | _=>false
def appArg:Op→Option Operand
 | .call ⟨.builtin .append,args,_⟩=>args.toList.head?
 | _=>none
def Ran (P:Program) (B:Base) (E:Env) (o:Oper) (a:Act) (K:SV→List Entry→Prop):Prop :=
 ∃ nx v E' H' s,(execOp a.eval o).run P E.w=.ok nx E'.w∧(nx=.value v∨nx=.skip∧v=undef)∧Inv B E' H'∧E.le E'∧den E' s v∧K s H'∧
  (ZbP o.op=true→nx=.value v∧E'.w=E.w∧∀ w',(isLoad o.op=true→Zqi E.w w')→(execOp a.eval o).run P w'=.ok (.value v) w')∧((ZbP o.op||Zkd o.op)=true→Grow E.w E'.w)∧∀ x,appArg o.op=some x→E.w.grownBy E'.w (a.eval x).ownBlock
theorem Zl0 {op:Op} {p:Operand→Prop} (ha:appArg op=none):∀ x,appArg op=some x→p x:=fun x e=>by rw [ha] at e;cases e
theorem ZtH {B:Base} {E:Env} {H:List Entry} (hI:Inv B E H) {o:Oper} {a:Act} {K:SV→List Entry→Prop} {x:Sem Value} (he:execOp a.eval o=(do pure (.value (←x)):Sem Next)) (hl:isLoad o.op=true)
  (h:∃ u s E' H',E'.w=E.w∧ZwF P E.w x u∧Inv B E' H'∧E.le E'∧den E' s u∧K s H') (ha:appArg o.op=none:=by rfl):Ran P B E o a K:=by
 obtain ⟨u,s,E',H',hw,h1,h2,h2',h3,h3'⟩:=h
 have h4:∀ w',Zqi E.w w'→(execOp a.eval o).run P w'=.ok (.value u) w':=fun w' hst=>by rw [he,Sem.run_bind,h1 w' hst];rfl
 exact ⟨_,u,E',H',s,by rw [hw];exact h4 _ (Zqi.refl _),.inl rfl,h2,h2',h3,h3',fun _=>⟨rfl,hw,fun w' h=>h4 w' (h hl)⟩,fun _=>by rw [hw];exact Grow.refl _,Zl0 ha⟩
theorem Vi {B:Base} {E:Env} {H:List Entry} (hI:Inv B E H) {o:Oper} {a:Act} {K:SV→List Entry→Prop} {x:Sem Value} (he:execOp a.eval o=(do pure (.value (←x)):Sem Next))
  (h:∃ u s,Zoc P x u∧den E s u∧K s H) (ha:appArg o.op=none:=by rfl):Ran P B E o a K:=by
 obtain ⟨u,s,h1,h2,h3⟩:=h
 have h4:∀ w',(execOp a.eval o).run P w'=.ok (.value u) w':=fun w'=>by rw [he,Sem.run_bind,h1 w'];rfl
 exact ⟨_,u,E,H,s,h4 _,.inl rfl,hI,Env.le.refl E,h2,h3,fun _=>⟨rfl,rfl,fun w' _=>h4 w'⟩,fun _=>Grow.refl _,Zl0 ha⟩
theorem Zg2 {B:Base} {E:Env} {H:List Entry} (hI:Inv B E H) {o:Oper} {a:Act} {K:SV→List Entry→Prop} {u:Value} {s:SV} (he:execOp a.eval o=(pure (.value u):Sem Next))
  (h2:den E s u) (h3:K s H) (ha:appArg o.op=none:=by rfl):Ran P B E o a K :=
 ⟨_,u,E,H,s,by rw [he];rfl,.inl rfl,hI,Env.le.refl E,h2,h3,fun _=>⟨rfl,rfl,fun w' _=>by rw [he];rfl⟩,fun _=>Grow.refl _,Zl0 ha⟩
theorem Zdx {B:Base} {E:Env} {o:Oper} {a:Act} {K:SV→List Entry→Prop} {x:Sem Value} (he:execOp a.eval o=(do pure (.value (←x)):Sem Next)) (hl:ZbP o.op=false)
  (h:∃ u E' H' s,x.run P E.w=.ok u E'.w∧Inv B E' H'∧E.le E'∧den E' s u∧K s H'∧Grow E.w E'.w) (ha:appArg o.op=none:=by rfl):Ran P B E o a K:=by
 obtain ⟨u,E',H',s,h1,h2,h3,h4,h5,h6⟩:=h
 exact ⟨_,u,E',H',s,by rw [he,Sem.run_bind,h1];rfl,.inl rfl,h2,h3,h4,h5,fun e=>(by rw [hl] at e;cases e),fun _=>h6,Zl0 ha⟩
theorem ZxM {B:Base} {E:Env} {o:Oper} {a:Act} {K:SV→List Entry→Prop} {x:Sem Value} (he:execOp a.eval o=(do pure (.value (←x)):Sem Next)) (hl:(ZbP o.op||Zkd o.op)=false)
  (h:∃ u E' H' s,x.run P E.w=.ok u E'.w∧Inv B E' H'∧E.le E'∧den E' s u∧K s H') (ha:appArg o.op=none:=by rfl):Ran P B E o a K:=by
 obtain ⟨u,E',H',s,h1,h2,h3,h4,h5⟩:=h
 have hl':ZbP o.op=false:=by cases h:ZbP o.op<;>simp [h] at hl ⊢
 exact ⟨_,u,E',H',s,by rw [he,Sem.run_bind,h1];rfl,.inl rfl,h2,h3,h4,h5,fun e=>(by rw [hl'] at e;cases e),fun e=>(by rw [hl] at e;cases e),Zl0 ha⟩
theorem Zxt {B:Base} {E:Env} {o:Oper} {a:Act} {K:SV→List Entry→Prop} {x:Sem Value} {r:Operand} (he:execOp a.eval o=(do pure (.value (←x)):Sem Next)) (hl:(ZbP o.op||Zkd o.op)=false) (ha:appArg o.op=some r)
  (h:∃ u E' H' s,x.run P E.w=.ok u E'.w∧Inv B E' H'∧E.le E'∧den E' s u∧K s H'∧E.w.grownBy E'.w (a.eval r).ownBlock):Ran P B E o a K:=by
 obtain ⟨u,E',H',s,h1,h2,h3,h4,h5,h6⟩:=h
 have hl':ZbP o.op=false:=by cases h:ZbP o.op<;>simp [h] at hl ⊢
 exact ⟨_,u,E',H',s,by rw [he,Sem.run_bind,h1];rfl,.inl rfl,h2,h3,h4,h5,fun e=>(by rw [hl'] at e;cases e),fun e=>(by rw [hl] at e;cases e),fun x hx=>by rw [ha] at hx;injection hx with hx;subst hx;exact h6⟩
theorem Zqv (a:Act) (ps:Array (Nat×Operand)):(ps.map fun x=>(x.1,a.eval x.2)).toList=ps.toList.map fun x=>(x.1,a.eval x.2):=by simp
theorem ZtU {Δ:Tab} (hΔ:Δ.ok P) {B:Base} {E:Env} {H:List Entry} (hI:Inv B E H) {regs:List SV} {a:Act} (hd:Yc E regs a.tmps.toList) {o:Oper} {K:SV→List Entry→Prop}
  (h:opK Δ regs H o.op K):Ran P B E o a K:=by
 obtain ⟨dst,op,type,pos,after,guard⟩:=o
 simp only at h
 have val:∀ {x:Operand} (op':Op),(execOp a.eval ⟨dst,op',type,pos,after,guard⟩=pure (.value (a.eval x)))→(J2 regs x fun s=>K s H)→appArg op'=none→Ran P B E ⟨dst,op',type,pos,after,guard⟩ a K:=by
  intro x op' he h ha
  obtain ⟨s,hs,h⟩:=Yr hd h
  exact Zg2 hI he hs h ha
 unfold opK at h
 split at h
 ·exact val _ rfl h rfl
 ·exact val _ rfl h rfl
 ·rename_i c x y
  obtain ⟨s,hs,h⟩:=Yr hd h
  split at h
  ·simp only [den] at hs
   obtain ⟨s',hs',h⟩:=Yr hd h
   exact Zg2 hI (u:=a.eval x) (by simp [execOp,hs,asBool]) hs' h
  ·simp only [den] at hs
   obtain ⟨s',hs',h⟩:=Yr hd h
   exact Zg2 hI (u:=a.eval y) (by simp [execOp,hs,asBool]) hs' h
  ·rename_i p
   simp only [den] at hs
   cases p
   ·obtain ⟨s',hs',h⟩:=Yr hd (h.2 rfl)
    exact Zg2 hI (u:=a.eval y) (by simp [execOp,hs,asBool]) hs' h
   ·obtain ⟨s',hs',h⟩:=Yr hd (h.1 rfl)
    exact Zg2 hI (u:=a.eval x) (by simp [execOp,hs,asBool]) hs' h
  ·exact h.elim
 ·obtain ⟨ti,ht,h⟩:=Xe Δ hΔ h
  exact Zdx rfl rfl (Zva hI ht h)
 ·obtain ⟨s,hs,h⟩:=Yr hd h
  exact Zdx rfl rfl (Zw7 hI hs h)
 ·rename_i T ps
  obtain ⟨ti,ht,h⟩:=Xe Δ hΔ h
  obtain ⟨l,hl,h⟩:=ZnO hd _ h
  exact Vi hI rfl (Zve ht (by rw [Zqv];exact hl) h)
 ·rename_i T n ps
  obtain ⟨ti,ht,h⟩:=Xe Δ hΔ h
  obtain ⟨l,hl,h⟩:=ZnO hd _ h
  exact Zdx rfl rfl (Zom hI ht (by rw [Zqv];exact hl) h)
 ·obtain ⟨ti,ht,h⟩:=Xe Δ hΔ h
  obtain ⟨s,hs,h⟩:=Yr hd h
  exact ZtH hI rfl rfl (ZwD hI ht hs h)
 ·obtain ⟨ti,ht,h⟩:=Xe Δ hΔ h
  obtain ⟨sa,hsa,h⟩:=Yr hd h
  obtain ⟨sx,hsx,h⟩:=Yr hd h
  obtain ⟨E',H',h1,h2,h3,h4⟩:=Zuc hI ht hsa hsx h
  exact ⟨.skip,undef,E',H',.tup [],by simp [execOp,h1],.inr ⟨rfl,rfl⟩,h2,h3,by simp only [den];exact ⟨[],rfl,trivial⟩,h4,fun e=>(by cases e),fun e=>(by cases e),Zl0 rfl⟩
 ·obtain ⟨s0,hs0,h⟩:=Yr hd h
  obtain ⟨s,hs,h⟩:=Zvi hs0 h
  split at h
  ·rename_i hp
   rcases Zsb hs hp with ⟨p,hv⟩ | ⟨f,cs,hv⟩
   ·exact Zg2 hI (by simp [execOp,hv];rfl) (by rw [←hv];exact hs) h
   ·exact Zg2 hI (by simp [execOp,hv];rfl) (by rw [←hv];exact hs) h
  ·exact h.elim
 ·obtain ⟨sx,hsx,h⟩:=Yr hd h
  obtain ⟨sy,hsy,h⟩:=Yr hd h
  obtain ⟨r,s,h1,h2,h3⟩:=Zv8 (P:=P) hΔ h hsx hsy _ _
  exact Vi hI rfl ⟨r,s,h1,h2,h3⟩
 ·obtain ⟨sx,hsx,h⟩:=Yr hd h
  obtain ⟨r,s,h1,h2,h3⟩:=Zyx (P:=P) h hsx
  exact Vi hI rfl ⟨r,s,h1,h2,h3⟩
 ·obtain ⟨ts,hts,h⟩:=Xe Δ hΔ h
  obtain ⟨td,htd,h⟩:=Xe Δ hΔ h
  obtain ⟨s,hs,h⟩:=Yr hd h
  split at h
  ·rename_i hk1 hk2
   obtain ⟨te,hte,h⟩:=Xe Δ hΔ h
   obtain ⟨u,r,h1,h2,h3⟩:=ZuF (P:=P) hI hts hk1 htd hk2 hte hs h
   exact Zdx rfl rfl ⟨u,E,H,r,h1,hI,Env.le.refl E,h2,h3,Grow.refl _⟩
  ·obtain ⟨u,r,h1,h2,h3⟩:=ZvM (P:=P) hts htd hs h
   exact Vi hI rfl ⟨u,r,h1,h2,h3⟩
 ·rename_i f first caps
  split at h
  ·rename_i hf
   obtain ⟨caps⟩:=caps
   obtain ⟨l,hl,h⟩:=ZkS hd _ h
   have hf':first=#[]:=Array.eq_empty_of_size_eq_zero hf
   subst hf'
   refine Vi hI rfl ⟨_,_,fun w=>rfl,?_,h⟩
   simp only [den]
   exact ⟨_,by simp,hl⟩
  ·exact h.elim
 ·obtain ⟨ti,ht,h⟩:=Xe Δ hΔ h
  obtain ⟨sl,hsl,h⟩:=Yr hd h
  obtain ⟨sc,hsc,h⟩:=Yr hd h
  exact Zdx rfl rfl (Zv7 hI ht hsl hsc h)
 ·obtain ⟨ti,ht,h⟩:=Xe Δ hΔ h
  obtain ⟨s,hs,h⟩:=Yr hd h
  exact Zdx rfl rfl (ZuN hI hd ht hs h)
 ·obtain ⟨ti,ht,h⟩:=Xe Δ hΔ h
  obtain ⟨s,hs,h⟩:=Yr hd h
  exact Vi hI rfl (ZpZ ht hs h)
 ·obtain ⟨ti,ht,h⟩:=Xe Δ hΔ h
  obtain ⟨s,hs,h⟩:=Yr hd h
  exact Vi hI rfl (ZuI ht hs h)
 ·rename_i T x i
  obtain ⟨ti,ht,h⟩:=Xe Δ hΔ h
  obtain ⟨s,hs,h⟩:=Yr hd h
  cases i with
  | const v =>
   obtain ⟨si,hsi,h⟩:∃ si,(∀ j,Zls (.const v)=some j→∀ k i,si=.int k i→i=(j:Int))∧den E si v∧ZiQ ti s si (.const v) H fun r=>K r H:=by
    have h':=h
    obtain ⟨si,hsi,h⟩:=Yr hd h
    have hsi':den E si v:=hsi
    refine ⟨si,fun j hj k i hsi2=>?_,hsi',h⟩
    subst hsi2
    simp only [den] at hsi'
    subst hsi'
    simp only [Zls] at hj
    split at hj
    ·simp at hj;subst hj;rfl
    ·cases hj
   exact Vi hI rfl (Zg4 hI ht hs h.1 h.2 hsi)
  | tmp t =>
   obtain ⟨si,hsi,h⟩:=Yr hd h
   exact Vi hI rfl (Zg4 hI ht hs hsi h (fun j hj=>by simp [Zls] at hj))
  | global g=>exact h.elim
  | func f =>
   obtain ⟨si,hsi,h⟩:=Yr hd h
   exact Vi hI rfl (Zg4 hI ht hs hsi h (fun j hj=>by simp [Zls] at hj))
 ·obtain ⟨ti,ht,h⟩:=Xe Δ hΔ h
  obtain ⟨s,hs,h⟩:=Yr hd h
  obtain ⟨si,hsi,h⟩:=Yr hd h
  obtain ⟨u,r,h1,h2,h3⟩:=Zvf (P:=P) ht hs hsi h
  exact Vi hI rfl ⟨u,r,h1,h2,h3⟩
 ·obtain ⟨s,hs,h⟩:=Yr hd h
  obtain ⟨u,r,h1,h2,h3⟩:=Zxz (P:=P) hs h
  exact Vi hI rfl ⟨u,r,h1,h2,h3⟩
 ·obtain ⟨ti,ht,h⟩:=Xe Δ hΔ h
  exact Zdx rfl rfl (ZrC hI ht h)
 ·obtain ⟨ti,ht,h⟩:=Xe Δ hΔ h
  obtain ⟨sx,hsx,h⟩:=Yr hd h
  obtain ⟨si,hsi,h⟩:=Yr hd h
  obtain ⟨u,r,h1,h2,h3⟩:=Ztr (P:=P) hΔ hI ht hsx hsi h
  exact Zdx rfl rfl ⟨u,E,H,r,h1,hI,Env.le.refl E,h2,h3,Grow.refl _⟩
 ·obtain ⟨ti,ht,h⟩:=Xe Δ hΔ h
  obtain ⟨sx,hsx,h⟩:=Yr hd h
  obtain ⟨si,hsi,h⟩:=Yr hd h
  obtain ⟨sy,hsy,h⟩:=Yr hd h
  obtain ⟨E',H',h1,h2,h3,h4⟩:=Ztc (P:=P) hΔ hI ht hsx hsi hsy h
  exact ⟨.skip,undef,E',H',.tup [],by simp [execOp,h1],.inr ⟨rfl,rfl⟩,h2,h3,by simp only [den];exact ⟨[],rfl,trivial⟩,h4,fun e=>(by cases e),fun e=>(by cases e),Zl0 rfl⟩
 ·rename_i c
  obtain ⟨callee,args,argTypes⟩:=c
  obtain ⟨args⟩:=args
  obtain ⟨argTypes⟩:=argTypes
  simp only at h
  split at h
  ·rename_i x T
   obtain ⟨ti,ht,h⟩:=Xe Δ hΔ h
   obtain ⟨s,hs,h⟩:=Yr hd h
   obtain ⟨u,r,h1,h2,h3⟩:=Zxr (ty:=type) hI ht hs h
   exact Vi hI (x:=Builtin.len_ #[T] type #[a.eval x]) (by simp only [execOp,resolve,invoke,builtin,pure_bind,List.map_toArray,List.map_cons,List.map_nil]) ⟨u,r,h1,h2,h3⟩
  ·rename_i x y T T'
   split at h
   ·rename_i hTT;subst hTT
    obtain ⟨ti,ht,h⟩:=Xe Δ hΔ h
    obtain ⟨sx,hsx,h⟩:=Yr hd h
    obtain ⟨sy,hsy,h⟩:=Yr hd h
    exact Zxt (x:=Builtin.append_ #[T,T] type #[a.eval x,a.eval y]) (by simp only [execOp,resolve,invoke,builtin,pure_bind,List.map_toArray,List.map_cons,List.map_nil]) rfl rfl (Zs8 (ty:=type) hI ht hsx hsy h)
   ·exact h.elim
  ·rename_i x r
   obtain ⟨s,hs,h⟩:=Yr hd h
   obtain ⟨l,hl,h⟩:=ZkS hd _ h
   obtain ⟨u,r',h1,h2,h3⟩:=Zrj (P:=P) (mx:=false) l s _ _ hs hl h
   exact Vi hI (x:=Builtin.min_ argTypes.toArray type ((x::r).toArray.map a.eval)) (by simp only [execOp,resolve,invoke,builtin,pure_bind]) ⟨u,r',fun w=>by simpa [Builtin.min_] using h1 w,h2,h3⟩
  ·rename_i x r
   obtain ⟨s,hs,h⟩:=Yr hd h
   obtain ⟨l,hl,h⟩:=ZkS hd _ h
   obtain ⟨u,r',h1,h2,h3⟩:=Zrj (P:=P) (mx:=true) l s _ _ hs hl h
   exact Vi hI (x:=Builtin.max_ argTypes.toArray type ((x::r).toArray.map a.eval)) (by simp only [execOp,resolve,invoke,builtin,pure_bind]) ⟨u,r',fun w=>by simpa [Builtin.max_] using h1 w,h2,h3⟩
  ·exact h.elim
 ·exact h.elim
end
end Go.Sx
