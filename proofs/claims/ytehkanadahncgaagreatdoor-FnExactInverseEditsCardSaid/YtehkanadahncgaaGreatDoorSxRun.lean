/-
  One operation that is no call of a Go function.
-/
import Derived.Test.YtehkanadahncgaaGreatDoorSxMap
namespace Go.Sx
set_option linter.unusedVariables false
set_option linter.unusedSimpArgs false
section
variable {P:Program}
def Zq8 (regs:List SV):List Operand→(List SV→Prop)→Prop
 | [],K=>K []
 | x::r,K=>J3 regs x fun s=>Zq8 regs r fun l=>K (s::l)
theorem Zjb {E:Env} {regs:List SV} {a:Act} (hd:Yi E regs a.tmps.toList):∀ (xs:List Operand) {K:List SV→Prop},Zq8 regs xs K→∃ l,Yi E l (xs.map a.eval)∧K l
 | [],K,h=>⟨[],trivial,h⟩
 | x::r,K,h=>by
  obtain ⟨s,hs,h⟩:=Yv hd h
  obtain ⟨l,hl,h⟩:=Zjb hd r h
  exact ⟨s::l,⟨hs,hl⟩,h⟩
def SV.ZuY:SV→Bool
 | .ptr _ _=>true
 | .oep _ _ _ _=>true
 | .fptr _=>true
 | .fn _ _=>true
 | _=>false
theorem Zp2 {E:Env} {s:SV} {v:Value} (h:den E s v) (hp:s.ZuY=true) :
  (∃ a,v=.pointer (some a))∨∃ f cs,v=.func (.func f) #[] cs:=by
 cases s<;>simp [SV.ZuY] at hp<;>simp only [den] at h
 case ptr=>obtain ⟨b,_,e⟩:=h;exact .inl ⟨_,e⟩
 case oep=>obtain ⟨b,bo,n,c,_,e⟩:=h;exact .inl ⟨_,e⟩
 case fptr=>obtain ⟨p,vs,e,_⟩:=h;exact .inl ⟨_,e⟩
 case fn=>obtain ⟨vs,e,_⟩:=h;exact .inr ⟨_,_,e⟩
def Ztf (s:SV) (K:SV→Prop):Prop :=
 match s with
 | .nptr t d=>∃ x,d=some x∧Vk t x fun cs=>K (.fptr cs)
 | s=>K s
theorem Zss {E:Env} {s:SV} {v:Value} (hs:den E s v) {K:SV→Prop} (hk:Ztf s K):∃ s',den E s' v∧K s':=by
 unfold Ztf at hk
 split at hk
 ·rename_i t d
  obtain ⟨x,rfl,hk⟩:=hk
  rw [XE] at hk
  refine ⟨_,?_,hk⟩
  simp only [den] at hs ⊢
  rcases hs with ⟨e,_⟩ | ⟨x',p,xs,e,e2,hp,hS,hc,hr⟩
  ·cases e
  ·injection e with e;subst e
   simp at e2;subst e2
   exact ⟨p,xs,rfl,hp,hS,hc,Xa t _ _ hr⟩
 ·exact ⟨s,hs,hk⟩
def ZuX (Δ:Tab) (op:BinOp) (T:TypeId) (sx sy:SV) (K:SV→Prop):Prop :=
 match sx,sy with
 | .agg xs,.agg ys=>ZcA Δ T fun ti=>eqK op ti (.agg xs) (.agg ys) K
 | .bool x,sy=>ZcA Δ T fun ti=>eqK op ti (.bool x) sy K
 | .blit x,sy=>ZcA Δ T fun ti=>eqK op ti (.blit x) sy K
 | sx,.nilp=>ZcA Δ T fun ti=>if Zix ti.kind=true then ZwZ op ti sx K else False
 | sx,.nsl=>ZcA Δ T fun ti=>if Zpp ti.kind=true then ZwZ op ti sx K else False
 | sx,sy=>ZyP op sx sy K
theorem Zuy {Δ:Tab} (hΔ:Δ.ok P) {E:Env} {op:BinOp} {T:TypeId} {x y:SV} {K:SV→Prop} (h:ZuX Δ op T x y K) {u v:Value} (hu:den E x u) (hv:den E y v) (ox oy:Operand) :
  ∃ r s,(∀ w,((do eqGuard op T ox oy u v;binOp op T u v:Sem Value)).run P w=.ok r w)∧den E s r∧K s:=by
 unfold ZuX at h
 split at h
 ·obtain ⟨ti,ht,h⟩:=Y8 Δ hΔ h;exact Zr5 ht h hu hv ox oy
 ·obtain ⟨ti,ht,h⟩:=Y8 Δ hΔ h;exact Zr5 ht h hu hv ox oy
 ·obtain ⟨ti,ht,h⟩:=Y8 Δ hΔ h;exact Zr5 ht h hu hv ox oy
 ·obtain ⟨ti,ht,h⟩:=Y8 Δ hΔ h
  split at h
  ·rename_i hq
   exact Zsb ht (.inl rfl) h ⟨fun _=>rfl,fun hs=>by cases hk:ti.kind<;>rw [hk] at hq hs<;>simp [Zix,Zpp] at hq hs⟩ hu hv ox oy
  ·exact h.elim
 ·obtain ⟨ti,ht,h⟩:=Y8 Δ hΔ h
  split at h
  ·rename_i hq
   exact Zsb ht (.inr rfl) h ⟨fun hs=>by cases hk:ti.kind<;>rw [hk] at hq hs<;>simp [Zix,Zpp] at hq hs,fun _=>rfl⟩ hu hv ox oy
  ·exact h.elim
 ·exact Zvk h hu hv T ox oy
def opK (Δ:Tab) (regs:List SV) (H:List Entry) (op:Op) (K:SV→List Entry→Prop):Prop :=
 match op with
 | .move x=>J3 regs x fun s=>K s H
 | .assign x=>J3 regs x fun s=>K s H
 | .pick c x y=>J3 regs c fun s=>match s with
  | .blit true=>J3 regs x fun s=>K s H
  | .blit false=>J3 regs y fun s=>K s H
  | .bool p=>(p=true→J3 regs x fun s=>K s H)∧(p=false→J3 regs y fun s=>K s H)
  | _=>False
 | .alloc T=>ZcA Δ T fun ti=>ZuJ ti H K
 | .box _ x=>J3 regs x fun s=>ZxJ s H K
 | .build T ps=>ZcA Δ T fun ti=>Zqr regs ps.toList fun l=>Zs9 ti l fun s=>K s H
 | .buildSlice T n ps=>ZcA Δ T fun ti=>Zqr regs ps.toList fun l=>ZiO ti n l H K
 | .load T x=>ZcA Δ T fun ti=>J3 regs x fun s=>Zvq ti s H K
 | .store T x y=>ZcA Δ T fun ti=>J3 regs x fun sa=>J3 regs y fun sx=>Zr8 ti sa sx H fun H'=>K (.tup []) H'
 | .nilCheck x=>J3 regs x fun s=>Ztf s fun s'=>if s'.ZuY=true then K s' H else False
 | .binOp op T x y _=>J3 regs x fun sx=>J3 regs y fun sy=>ZuX Δ op T sx sy fun s=>K s H
 | .unOp op _ x=>J3 regs x fun sx=>unK op sx fun s=>K s H
 | .convert S T x=>ZcA Δ S fun ts=>ZcA Δ T fun td=>J3 regs x fun s=>match ts.kind,td.kind with
  | .sl,.str=>ZcA Δ ts.elem fun te=>Zs4 te s H fun r=>K r H
  | _,_=>Zvj ts td s H fun r=>K r H
 | .makeFunc (.func f) first caps=>if first.size=0 then Zq8 regs caps.toList fun l=>K (.fn f l) H else False
 | .makeSlice T l c=>ZcA Δ T fun ti=>J3 regs l fun sl=>J3 regs c fun sc=>ZuV ti sl sc H K
 | .slice T x lo hi none=>ZcA Δ T fun ti=>J3 regs x fun s=>Zsq ti regs s lo hi H K
 | .fieldAddr T x f=>ZcA Δ T fun ti=>J3 regs x fun s=>Zks ti s f fun r=>K r H
 | .field T x f=>ZcA Δ T fun ti=>J3 regs x fun s=>Zsn ti s f fun r=>K r H
 | .indexAddr T x i=>ZcA Δ T fun ti=>J3 regs x fun s=>J3 regs i fun si=>ZhS ti s si i H fun r=>K r H
 | .index T x i=>ZcA Δ T fun ti=>J3 regs x fun s=>J3 regs i fun si=>ZsX ti s si fun r=>K r H
 | .extract x i=>J3 regs x fun s=>Zyq s i fun r=>K r H
 | .makeMap T none=>ZcA Δ T fun ti=>ZoB ti H K
 | .lookup T x i ok=>ZcA Δ T fun ti=>J3 regs x fun sx=>J3 regs i fun si=>Zp8 Δ ti sx si ok H fun r=>K r H
 | .mapUpdate T x i y=>ZcA Δ T fun ti=>J3 regs x fun sx=>J3 regs i fun si=>J3 regs y fun sy=>Zqb Δ ti sx si sy H fun H'=>K (.tup []) H'
 | .call c=>match c.callee,c.args.toList,c.argTypes.toList with
  | .builtin .len,[x],[T]=>ZcA Δ T fun ti=>J3 regs x fun s=>Zyk ti s H fun r=>K r H
  | .builtin .append,[x,y],[T,T']=>if T=T' then ZcA Δ T fun ti=>J3 regs x fun sx=>J3 regs y fun sy=>ZpG ti sx sy H K else False
  | .builtin .min,x::r,_=>J3 regs x fun s=>Zq8 regs r fun l=>Zv3 false s l fun r=>K r H
  | .builtin .max,x::r,_=>J3 regs x fun s=>Zq8 regs r fun l=>Zv3 true s l fun r=>K r H
  | _,_,_=>False
 | _=>False
def ZbG:Op→Bool
 | .move _=>true
 | .assign _=>true
 | .pick _ _ _=>true
 | .build _ _=>true
 | .load _ _=>true
 | .nilCheck _=>true
 | .binOp _ _ _ _ _=>true
 | .unOp _ _ _=>true
 | .fieldAddr _ _ _=>true
 | .field _ _ _=>true
 | .indexAddr _ _ _=>true
 | .index _ _ _=>true
 | .extract _ _=>true
 | .makeFunc _ _ _=>true
 | .call c=>match c.callee with
  | .builtin .len=>true
  | .builtin .min=>true
  | .builtin .max=>true
  | _=>false
 | _=>false
def isLoad:Op→Bool
 | .load _ _=>true
 | _=>false
def Zi4:Op→Bool
 | .alloc _=>true
 | .box _ _=>true
 | .buildSlice _ _ _=>true
 | .makeSlice _ _ _=>true
 | .slice _ _ _ _ _=>true
 | .convert _ _ _=>true
 | .makeMap _ _=>true
 | _=>false
def appArg:Op→Option Operand
 | .call ⟨.builtin .append,args,_⟩=>args.toList.head?
 | _=>none
def Ran (P:Program) (B:Base) (E:Env) (o:Oper) (a:Act) (K:SV→List Entry→Prop):Prop :=
 ∃ nx v E' H' s,(execOp a.eval o).run P E.w=.ok nx E'.w∧(nx=.value v∨nx=.skip∧v=undef)∧Inv B E' H'∧E.le E'∧den E' s v∧K s H'∧
  (ZbG o.op=true→nx=.value v∧E'.w=E.w∧∀ w',(isLoad o.op=true→Zop E.w w')→(execOp a.eval o).run P w'=.ok (.value v) w')∧((ZbG o.op||Zi4 o.op)=true→Grow E.w E'.w)∧∀ x,appArg o.op=some x→E.w.grownBy E'.w (a.eval x).ownBlock
theorem ZkM {op:Op} {p:Operand→Prop} (ha:appArg op=none):∀ x,appArg op=some x→p x:=fun x e=>by rw [ha] at e;cases e
theorem Zth {B:Base} {E:Env} {H:List Entry} (hI:Inv B E H) {o:Oper} {a:Act} {K:SV→List Entry→Prop} {x:Sem Value} (he:execOp a.eval o=(do pure (.value (←x)):Sem Next)) (hl:isLoad o.op=true)
  (h:∃ u s E' H',E'.w=E.w∧Zuq P E.w x u∧Inv B E' H'∧E.le E'∧den E' s u∧K s H') (ha:appArg o.op=none:=by rfl):Ran P B E o a K:=by
 obtain ⟨u,s,E',H',hw,h1,h2,h2',h3,h3'⟩:=h
 have h4:∀ w',Zop E.w w'→(execOp a.eval o).run P w'=.ok (.value u) w':=fun w' hst=>by rw [he,Sem.run_bind,h1 w' hst];rfl
 exact ⟨_,u,E',H',s,by rw [hw];exact h4 _ (Zop.refl _),.inl rfl,h2,h2',h3,h3',fun _=>⟨rfl,hw,fun w' h=>h4 w' (h hl)⟩,fun _=>by rw [hw];exact Grow.refl _,ZkM ha⟩
theorem Vh {B:Base} {E:Env} {H:List Entry} (hI:Inv B E H) {o:Oper} {a:Act} {K:SV→List Entry→Prop} {x:Sem Value} (he:execOp a.eval o=(do pure (.value (←x)):Sem Next))
  (h:∃ u s,Zm0 P x u∧den E s u∧K s H) (ha:appArg o.op=none:=by rfl):Ran P B E o a K:=by
 obtain ⟨u,s,h1,h2,h3⟩:=h
 have h4:∀ w',(execOp a.eval o).run P w'=.ok (.value u) w':=fun w'=>by rw [he,Sem.run_bind,h1 w'];rfl
 exact ⟨_,u,E,H,s,h4 _,.inl rfl,hI,Env.le.refl E,h2,h3,fun _=>⟨rfl,rfl,fun w' _=>h4 w'⟩,fun _=>Grow.refl _,ZkM ha⟩
theorem Zgh {B:Base} {E:Env} {H:List Entry} (hI:Inv B E H) {o:Oper} {a:Act} {K:SV→List Entry→Prop} {u:Value} {s:SV} (he:execOp a.eval o=(pure (.value u):Sem Next))
  (h2:den E s u) (h3:K s H) (ha:appArg o.op=none:=by rfl):Ran P B E o a K :=
 ⟨_,u,E,H,s,by rw [he];rfl,.inl rfl,hI,Env.le.refl E,h2,h3,fun _=>⟨rfl,rfl,fun w' _=>by rw [he];rfl⟩,fun _=>Grow.refl _,ZkM ha⟩
theorem Zc9 {B:Base} {E:Env} {o:Oper} {a:Act} {K:SV→List Entry→Prop} {x:Sem Value} (he:execOp a.eval o=(do pure (.value (←x)):Sem Next)) (hl:ZbG o.op=false)
  (h:∃ u E' H' s,x.run P E.w=.ok u E'.w∧Inv B E' H'∧E.le E'∧den E' s u∧K s H'∧Grow E.w E'.w) (ha:appArg o.op=none:=by rfl):Ran P B E o a K:=by
 obtain ⟨u,E',H',s,h1,h2,h3,h4,h5,h6⟩:=h
 exact ⟨_,u,E',H',s,by rw [he,Sem.run_bind,h1];rfl,.inl rfl,h2,h3,h4,h5,fun e=>(by rw [hl] at e;cases e),fun _=>h6,ZkM ha⟩
theorem Zvy {B:Base} {E:Env} {o:Oper} {a:Act} {K:SV→List Entry→Prop} {x:Sem Value} (he:execOp a.eval o=(do pure (.value (←x)):Sem Next)) (hl:(ZbG o.op||Zi4 o.op)=false)
  (h:∃ u E' H' s,x.run P E.w=.ok u E'.w∧Inv B E' H'∧E.le E'∧den E' s u∧K s H') (ha:appArg o.op=none:=by rfl):Ran P B E o a K:=by
 obtain ⟨u,E',H',s,h1,h2,h3,h4,h5⟩:=h
 have hl':ZbG o.op=false:=by cases h:ZbG o.op<;>simp [h] at hl ⊢
 exact ⟨_,u,E',H',s,by rw [he,Sem.run_bind,h1];rfl,.inl rfl,h2,h3,h4,h5,fun e=>(by rw [hl'] at e;cases e),fun e=>(by rw [hl] at e;cases e),ZkM ha⟩
theorem ZuU {B:Base} {E:Env} {o:Oper} {a:Act} {K:SV→List Entry→Prop} {x:Sem Value} {r:Operand} (he:execOp a.eval o=(do pure (.value (←x)):Sem Next)) (hl:(ZbG o.op||Zi4 o.op)=false) (ha:appArg o.op=some r)
  (h:∃ u E' H' s,x.run P E.w=.ok u E'.w∧Inv B E' H'∧E.le E'∧den E' s u∧K s H'∧E.w.grownBy E'.w (a.eval r).ownBlock):Ran P B E o a K:=by
 obtain ⟨u,E',H',s,h1,h2,h3,h4,h5,h6⟩:=h
 have hl':ZbG o.op=false:=by cases h:ZbG o.op<;>simp [h] at hl ⊢
 exact ⟨_,u,E',H',s,by rw [he,Sem.run_bind,h1];rfl,.inl rfl,h2,h3,h4,h5,fun e=>(by rw [hl'] at e;cases e),fun e=>(by rw [hl] at e;cases e),fun x hx=>by rw [ha] at hx;injection hx with hx;subst hx;exact h6⟩
theorem Zpa (a:Act) (ps:Array (Nat×Operand)):(ps.map fun x=>(x.1,a.eval x.2)).toList=ps.toList.map fun x=>(x.1,a.eval x.2):=by simp
theorem Zr3 {Δ:Tab} (hΔ:Δ.ok P) {B:Base} {E:Env} {H:List Entry} (hI:Inv B E H) {regs:List SV} {a:Act} (hd:Yi E regs a.tmps.toList) {o:Oper} {K:SV→List Entry→Prop}
  (h:opK Δ regs H o.op K):Ran P B E o a K:=by
 obtain ⟨dst,op,type,pos,after,guard⟩:=o
 simp only at h
 have val:∀ {x:Operand} (op':Op),(execOp a.eval ⟨dst,op',type,pos,after,guard⟩=pure (.value (a.eval x)))→(J3 regs x fun s=>K s H)→appArg op'=none→Ran P B E ⟨dst,op',type,pos,after,guard⟩ a K:=by
  intro x op' he h ha
  obtain ⟨s,hs,h⟩:=Yv hd h
  exact Zgh hI he hs h ha
 unfold opK at h
 split at h
 ·exact val _ rfl h rfl
 ·exact val _ rfl h rfl
 ·rename_i c x y
  obtain ⟨s,hs,h⟩:=Yv hd h
  split at h
  ·simp only [den] at hs
   obtain ⟨s',hs',h⟩:=Yv hd h
   exact Zgh hI (u:=a.eval x) (by simp [execOp,hs,asBool]) hs' h
  ·simp only [den] at hs
   obtain ⟨s',hs',h⟩:=Yv hd h
   exact Zgh hI (u:=a.eval y) (by simp [execOp,hs,asBool]) hs' h
  ·rename_i p
   simp only [den] at hs
   cases p
   ·obtain ⟨s',hs',h⟩:=Yv hd (h.2 rfl)
    exact Zgh hI (u:=a.eval y) (by simp [execOp,hs,asBool]) hs' h
   ·obtain ⟨s',hs',h⟩:=Yv hd (h.1 rfl)
    exact Zgh hI (u:=a.eval x) (by simp [execOp,hs,asBool]) hs' h
  ·exact h.elim
 ·obtain ⟨ti,ht,h⟩:=Y8 Δ hΔ h
  exact Zc9 rfl rfl (Zsu hI ht h)
 ·obtain ⟨s,hs,h⟩:=Yv hd h
  exact Zc9 rfl rfl (Zu1 hI hs h)
 ·rename_i T ps
  obtain ⟨ti,ht,h⟩:=Y8 Δ hΔ h
  obtain ⟨l,hl,h⟩:=ZlH hd _ h
  exact Vh hI rfl (Ztc ht (by rw [Zpa];exact hl) h)
 ·rename_i T n ps
  obtain ⟨ti,ht,h⟩:=Y8 Δ hΔ h
  obtain ⟨l,hl,h⟩:=ZlH hd _ h
  exact Zc9 rfl rfl (Zm2 hI ht (by rw [Zpa];exact hl) h)
 ·obtain ⟨ti,ht,h⟩:=Y8 Δ hΔ h
  obtain ⟨s,hs,h⟩:=Yv hd h
  exact Zth hI rfl rfl (Zuj hI ht hs h)
 ·obtain ⟨ti,ht,h⟩:=Y8 Δ hΔ h
  obtain ⟨sa,hsa,h⟩:=Yv hd h
  obtain ⟨sx,hsx,h⟩:=Yv hd h
  obtain ⟨E',H',h1,h2,h3,h4⟩:=ZsJ hI ht hsa hsx h
  exact ⟨.skip,undef,E',H',.tup [],by simp [execOp,h1],.inr ⟨rfl,rfl⟩,h2,h3,by simp only [den];exact ⟨[],rfl,trivial⟩,h4,fun e=>(by cases e),fun e=>(by cases e),ZkM rfl⟩
 ·obtain ⟨s0,hs0,h⟩:=Yv hd h
  obtain ⟨s,hs,h⟩:=Zss hs0 h
  split at h
  ·rename_i hp
   rcases Zp2 hs hp with ⟨p,hv⟩ | ⟨f,cs,hv⟩
   ·exact Zgh hI (by simp [execOp,hv];rfl) (by rw [←hv];exact hs) h
   ·exact Zgh hI (by simp [execOp,hv];rfl) (by rw [←hv];exact hs) h
  ·exact h.elim
 ·obtain ⟨sx,hsx,h⟩:=Yv hd h
  obtain ⟨sy,hsy,h⟩:=Yv hd h
  obtain ⟨r,s,h1,h2,h3⟩:=Zuy (P:=P) hΔ h hsx hsy _ _
  exact Vh hI rfl ⟨r,s,h1,h2,h3⟩
 ·obtain ⟨sx,hsx,h⟩:=Yv hd h
  obtain ⟨r,s,h1,h2,h3⟩:=ZvV (P:=P) h hsx
  exact Vh hI rfl ⟨r,s,h1,h2,h3⟩
 ·obtain ⟨ts,hts,h⟩:=Y8 Δ hΔ h
  obtain ⟨td,htd,h⟩:=Y8 Δ hΔ h
  obtain ⟨s,hs,h⟩:=Yv hd h
  split at h
  ·rename_i hk1 hk2
   obtain ⟨te,hte,h⟩:=Y8 Δ hΔ h
   obtain ⟨u,r,h1,h2,h3⟩:=Zs7 (P:=P) hI hts hk1 htd hk2 hte hs h
   exact Zc9 rfl rfl ⟨u,E,H,r,h1,hI,Env.le.refl E,h2,h3,Grow.refl _⟩
  ·obtain ⟨u,r,h1,h2,h3⟩:=Zul (P:=P) hts htd hs h
   exact Vh hI rfl ⟨u,r,h1,h2,h3⟩
 ·rename_i f first caps
  split at h
  ·rename_i hf
   obtain ⟨caps⟩:=caps
   obtain ⟨l,hl,h⟩:=Zjb hd _ h
   have hf':first=#[]:=Array.eq_empty_of_size_eq_zero hf
   subst hf'
   refine Vh hI rfl ⟨_,_,fun w=>rfl,?_,h⟩
   simp only [den]
   exact ⟨_,by simp,hl⟩
  ·exact h.elim
 ·obtain ⟨ti,ht,h⟩:=Y8 Δ hΔ h
  obtain ⟨sl,hsl,h⟩:=Yv hd h
  obtain ⟨sc,hsc,h⟩:=Yv hd h
  exact Zc9 rfl rfl (Zt9 hI ht hsl hsc h)
 ·obtain ⟨ti,ht,h⟩:=Y8 Δ hΔ h
  obtain ⟨s,hs,h⟩:=Yv hd h
  exact Zc9 rfl rfl (ZsW hI hd ht hs h)
 ·obtain ⟨ti,ht,h⟩:=Y8 Δ hΔ h
  obtain ⟨s,hs,h⟩:=Yv hd h
  exact Vh hI rfl (ZoI ht hs h)
 ·obtain ⟨ti,ht,h⟩:=Y8 Δ hΔ h
  obtain ⟨s,hs,h⟩:=Yv hd h
  exact Vh hI rfl (Zse ht hs h)
 ·rename_i T x i
  obtain ⟨ti,ht,h⟩:=Y8 Δ hΔ h
  obtain ⟨s,hs,h⟩:=Yv hd h
  cases i with
  | const v =>
   obtain ⟨si,hsi,h⟩:∃ si,(∀ j,Zkb (.const v)=some j→∀ k i,si=.int k i→i=(j:Int))∧den E si v∧ZhS ti s si (.const v) H fun r=>K r H:=by
    have h':=h
    obtain ⟨si,hsi,h⟩:=Yv hd h
    have hsi':den E si v:=hsi
    refine ⟨si,fun j hj k i hsi2=>?_,hsi',h⟩
    subst hsi2
    simp only [den] at hsi'
    subst hsi'
    simp only [Zkb] at hj
    split at hj
    ·simp at hj;subst hj;rfl
    ·cases hj
   exact Vh hI rfl (ZgI hI ht hs h.1 h.2 hsi)
  | tmp t =>
   obtain ⟨si,hsi,h⟩:=Yv hd h
   exact Vh hI rfl (ZgI hI ht hs hsi h (fun j hj=>by simp [Zkb] at hj))
  | global g=>exact h.elim
  | func f =>
   obtain ⟨si,hsi,h⟩:=Yv hd h
   exact Vh hI rfl (ZgI hI ht hs hsi h (fun j hj=>by simp [Zkb] at hj))
 ·obtain ⟨ti,ht,h⟩:=Y8 Δ hΔ h
  obtain ⟨s,hs,h⟩:=Yv hd h
  obtain ⟨si,hsi,h⟩:=Yv hd h
  obtain ⟨u,r,h1,h2,h3⟩:=Zsp (P:=P) ht hs hsi h
  exact Vh hI rfl ⟨u,r,h1,h2,h3⟩
 ·obtain ⟨s,hs,h⟩:=Yv hd h
  obtain ⟨u,r,h1,h2,h3⟩:=Zvd (P:=P) hs h
  exact Vh hI rfl ⟨u,r,h1,h2,h3⟩
 ·obtain ⟨ti,ht,h⟩:=Y8 Δ hΔ h
  exact Zc9 rfl rfl (ZpN hI ht h)
 ·obtain ⟨ti,ht,h⟩:=Y8 Δ hΔ h
  obtain ⟨sx,hsx,h⟩:=Yv hd h
  obtain ⟨si,hsi,h⟩:=Yv hd h
  obtain ⟨u,r,h1,h2,h3⟩:=ZrE (P:=P) hΔ hI ht hsx hsi h
  exact Zc9 rfl rfl ⟨u,E,H,r,h1,hI,Env.le.refl E,h2,h3,Grow.refl _⟩
 ·obtain ⟨ti,ht,h⟩:=Y8 Δ hΔ h
  obtain ⟨sx,hsx,h⟩:=Yv hd h
  obtain ⟨si,hsi,h⟩:=Yv hd h
  obtain ⟨sy,hsy,h⟩:=Yv hd h
  obtain ⟨E',H',h1,h2,h3,h4⟩:=Zq9 (P:=P) hΔ hI ht hsx hsi hsy h
  exact ⟨.skip,undef,E',H',.tup [],by simp [execOp,h1],.inr ⟨rfl,rfl⟩,h2,h3,by simp only [den];exact ⟨[],rfl,trivial⟩,h4,fun e=>(by cases e),fun e=>(by cases e),ZkM rfl⟩
 ·rename_i c
  obtain ⟨callee,args,argTypes⟩:=c
  obtain ⟨args⟩:=args
  obtain ⟨argTypes⟩:=argTypes
  simp only at h
  split at h
  ·rename_i x T
   obtain ⟨ti,ht,h⟩:=Y8 Δ hΔ h
   obtain ⟨s,hs,h⟩:=Yv hd h
   obtain ⟨u,r,h1,h2,h3⟩:=Zvr (ty:=type) hI ht hs h
   exact Vh hI (x:=Builtin.len_ #[T] type #[a.eval x]) (by simp only [execOp,resolve,invoke,builtin,pure_bind,List.map_toArray,List.map_cons,List.map_nil]) ⟨u,r,h1,h2,h3⟩
  ·rename_i x y T T'
   split at h
   ·rename_i hTT;subst hTT
    obtain ⟨ti,ht,h⟩:=Y8 Δ hΔ h
    obtain ⟨sx,hsx,h⟩:=Yv hd h
    obtain ⟨sy,hsy,h⟩:=Yv hd h
    exact ZuU (x:=Builtin.append_ #[T,T] type #[a.eval x,a.eval y]) (by simp only [execOp,resolve,invoke,builtin,pure_bind,List.map_toArray,List.map_cons,List.map_nil]) rfl rfl (Zrb (ty:=type) hI ht hsx hsy h)
   ·exact h.elim
  ·rename_i x r
   obtain ⟨s,hs,h⟩:=Yv hd h
   obtain ⟨l,hl,h⟩:=Zjb hd _ h
   obtain ⟨u,r',h1,h2,h3⟩:=Zqj (P:=P) (mx:=false) l s _ _ hs hl h
   exact Vh hI (x:=Builtin.min_ argTypes.toArray type ((x::r).toArray.map a.eval)) (by simp only [execOp,resolve,invoke,builtin,pure_bind]) ⟨u,r',fun w=>by simpa [Builtin.min_] using h1 w,h2,h3⟩
  ·rename_i x r
   obtain ⟨s,hs,h⟩:=Yv hd h
   obtain ⟨l,hl,h⟩:=Zjb hd _ h
   obtain ⟨u,r',h1,h2,h3⟩:=Zqj (P:=P) (mx:=true) l s _ _ hs hl h
   exact Vh hI (x:=Builtin.max_ argTypes.toArray type ((x::r).toArray.map a.eval)) (by simp only [execOp,resolve,invoke,builtin,pure_bind]) ⟨u,r',fun w=>by simpa [Builtin.max_] using h1 w,h2,h3⟩
  ·exact h.elim
 ·exact h.elim
end
end Go.Sx
