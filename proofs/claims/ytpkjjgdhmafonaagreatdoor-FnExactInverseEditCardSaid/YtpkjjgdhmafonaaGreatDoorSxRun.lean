/-
  One operation that is no call of a Go function.
-/
import Derived.Test.YtpkjjgdhmafonaaGreatDoorSxMap
namespace Go.Sx
set_option linter.unusedVariables false
set_option linter.unusedSimpArgs false
section
variable {P:Program}
def evalL (regs:List SV):List Operand→(List SV→Prop)→Prop
 | [],K=>K []
 | x::r,K=>evalO regs x fun s=>evalL regs r fun l=>K (s::l)
theorem evalL_ok {E:Env} {regs:List SV} {a:Act} (hd:dens E regs a.tmps.toList):∀ (xs:List Operand) {K:List SV→Prop},evalL regs xs K→∃ l,dens E l (xs.map a.eval)∧K l
 | [],K,h=>⟨[],trivial,h⟩
 | x::r,K,h=>by
  obtain ⟨s,hs,h⟩:=evalO_ok hd h
  obtain ⟨l,hl,h⟩:=evalL_ok hd r h
  exact ⟨s::l,⟨hs,hl⟩,h⟩
def SV.isPtr:SV→Bool
 | .ptr _ _=>true
 | .oep _ _ _ _=>true
 | .fptr _=>true
 | .fn _ _=>true
 | _=>false
theorem nilCheck_ok {E:Env} {s:SV} {v:Value} (h:den E s v) (hp:s.isPtr=true) :
  (∃ a,v=.pointer (some a))∨∃ f cs,v=.func (.func f) #[] cs:=by
 cases s<;>simp [SV.isPtr] at hp<;>simp only [den] at h
 case ptr=>obtain ⟨b,_,e⟩:=h;exact .inl ⟨_,e⟩
 case oep=>obtain ⟨b,bo,n,c,_,e⟩:=h;exact .inl ⟨_,e⟩
 case fptr=>obtain ⟨p,vs,e,_⟩:=h;exact .inl ⟨_,e⟩
 case fn=>obtain ⟨vs,e,_⟩:=h;exact .inr ⟨_,_,e⟩
def derefK (s:SV) (K:SV→Prop):Prop :=
 match s with
 | .nptr t d=>∃ x,d=some x∧toCellsR t x fun cs=>K (.fptr cs)
 | s=>K s
theorem derefK_ok {E:Env} {s:SV} {v:Value} (hs:den E s v) {K:SV→Prop} (hk:derefK s K):∃ s',den E s' v∧K s':=by
 unfold derefK at hk
 split at hk
 ·rename_i t d
  obtain ⟨x,rfl,hk⟩:=hk
  rw [toCellsR_eq] at hk
  refine ⟨_,?_,hk⟩
  simp only [den] at hs ⊢
  rcases hs with ⟨e,_⟩ | ⟨x',p,xs,e,e2,hp,hS,hc,hr⟩
  ·cases e
  ·injection e with e;subst e
   simp at e2;subst e2
   exact ⟨p,xs,rfl,hp,hS,hc,dens_toCells t _ _ hr⟩
 ·exact ⟨s,hs,hk⟩
def bin2K (Δ:Tab) (op:BinOp) (T:TypeId) (sx sy:SV) (K:SV→Prop):Prop :=
 match sx,sy with
 | .agg xs,.agg ys=>tlook Δ T fun ti=>eqK op ti (.agg xs) (.agg ys) K
 | .bool x,sy=>tlook Δ T fun ti=>eqK op ti (.bool x) sy K
 | .blit x,sy=>tlook Δ T fun ti=>eqK op ti (.blit x) sy K
 | sx,.nilp=>tlook Δ T fun ti=>if isPtrK ti.kind=true then nilK op ti sx K else False
 | sx,.nsl=>tlook Δ T fun ti=>if isSlK ti.kind=true then nilK op ti sx K else False
 | sx,sy=>binK op sx sy K
theorem bin2K_ok {Δ:Tab} (hΔ:Δ.ok P) {E:Env} {op:BinOp} {T:TypeId} {x y:SV} {K:SV→Prop} (h:bin2K Δ op T x y K) {u v:Value} (hu:den E x u) (hv:den E y v) (ox oy:Operand) :
  ∃ r s,(∀ w,((do eqGuard op T ox oy u v;binOp op T u v:Sem Value)).run P w=.ok r w)∧den E s r∧K s:=by
 unfold bin2K at h
 split at h
 ·obtain ⟨ti,ht,h⟩:=tlook_ok Δ hΔ h;exact eqK_ok ht h hu hv ox oy
 ·obtain ⟨ti,ht,h⟩:=tlook_ok Δ hΔ h;exact eqK_ok ht h hu hv ox oy
 ·obtain ⟨ti,ht,h⟩:=tlook_ok Δ hΔ h;exact eqK_ok ht h hu hv ox oy
 ·obtain ⟨ti,ht,h⟩:=tlook_ok Δ hΔ h
  split at h
  ·rename_i hq
   exact nilK_ok ht (.inl rfl) h ⟨fun _=>rfl,fun hs=>by cases hk:ti.kind<;>rw [hk] at hq hs<;>simp [isPtrK,isSlK] at hq hs⟩ hu hv ox oy
  ·exact h.elim
 ·obtain ⟨ti,ht,h⟩:=tlook_ok Δ hΔ h
  split at h
  ·rename_i hq
   exact nilK_ok ht (.inr rfl) h ⟨fun hs=>by cases hk:ti.kind<;>rw [hk] at hq hs<;>simp [isPtrK,isSlK] at hq hs,fun _=>rfl⟩ hu hv ox oy
  ·exact h.elim
 ·exact binK_ok h hu hv T ox oy
def opK (Δ:Tab) (regs:List SV) (H:List Entry) (op:Op) (K:SV→List Entry→Prop):Prop :=
 match op with
 | .move x=>evalO regs x fun s=>K s H
 | .assign x=>evalO regs x fun s=>K s H
 | .pick c x y=>evalO regs c fun s=>match s with
  | .blit true=>evalO regs x fun s=>K s H
  | .blit false=>evalO regs y fun s=>K s H
  | .bool p=>(p=true→evalO regs x fun s=>K s H)∧(p=false→evalO regs y fun s=>K s H)
  | _=>False
 | .alloc T=>tlook Δ T fun ti=>allocK ti H K
 | .box _ x=>evalO regs x fun s=>boxK s H K
 | .build T ps=>tlook Δ T fun ti=>partsR regs ps.toList fun l=>buildK ti l fun s=>K s H
 | .buildSlice T n ps=>tlook Δ T fun ti=>partsR regs ps.toList fun l=>buildSliceD ti n l H K
 | .load T x=>tlook Δ T fun ti=>evalO regs x fun s=>loadS ti s H K
 | .store T x y=>tlook Δ T fun ti=>evalO regs x fun sa=>evalO regs y fun sx=>storeS ti sa sx H fun H'=>K (.tup []) H'
 | .nilCheck x=>evalO regs x fun s=>derefK s fun s'=>if s'.isPtr=true then K s' H else False
 | .binOp op T x y _=>evalO regs x fun sx=>evalO regs y fun sy=>bin2K Δ op T sx sy fun s=>K s H
 | .unOp op _ x=>evalO regs x fun sx=>unK op sx fun s=>K s H
 | .convert S T x=>tlook Δ S fun ts=>tlook Δ T fun td=>evalO regs x fun s=>match ts.kind,td.kind with
  | .sl,.str=>tlook Δ ts.elem fun te=>convBK te s H fun r=>K r H
  | _,_=>convK ts td s H fun r=>K r H
 | .makeFunc (.func f) first caps=>if first.size=0 then evalL regs caps.toList fun l=>K (.fn f l) H else False
 | .makeSlice T l c=>tlook Δ T fun ti=>evalO regs l fun sl=>evalO regs c fun sc=>makeD ti sl sc H K
 | .slice T x lo hi none=>tlook Δ T fun ti=>evalO regs x fun s=>sliceD ti regs s lo hi H K
 | .fieldAddr T x f=>tlook Δ T fun ti=>evalO regs x fun s=>fieldAddrK ti s f fun r=>K r H
 | .field T x f=>tlook Δ T fun ti=>evalO regs x fun s=>fieldK ti s f fun r=>K r H
 | .indexAddr T x i=>tlook Δ T fun ti=>evalO regs x fun s=>evalO regs i fun si=>indexAddrK ti s si i H fun r=>K r H
 | .index T x i=>tlook Δ T fun ti=>evalO regs x fun s=>evalO regs i fun si=>strIxK ti s si fun r=>K r H
 | .extract x i=>evalO regs x fun s=>tupK s i fun r=>K r H
 | .makeMap T none=>tlook Δ T fun ti=>makeMapK ti H K
 | .lookup T x i ok=>tlook Δ T fun ti=>evalO regs x fun sx=>evalO regs i fun si=>lookupK Δ ti sx si ok H fun r=>K r H
 | .mapUpdate T x i y=>tlook Δ T fun ti=>evalO regs x fun sx=>evalO regs i fun si=>evalO regs y fun sy=>updateK Δ ti sx si sy H fun H'=>K (.tup []) H'
 | .call c=>match c.callee,c.args.toList,c.argTypes.toList with
  | .builtin .len,[x],[T]=>tlook Δ T fun ti=>evalO regs x fun s=>lenK ti s H fun r=>K r H
  | .builtin .append,[x,y],[T,T']=>if T=T' then tlook Δ T fun ti=>evalO regs x fun sx=>evalO regs y fun sy=>appendD ti sx sy H K else False
  | .builtin .min,x::r,_=>evalO regs x fun s=>evalL regs r fun l=>minK false s l fun r=>K r H
  | .builtin .max,x::r,_=>evalO regs x fun s=>evalL regs r fun l=>minK true s l fun r=>K r H
  | _,_,_=>False
 | _=>False
def lightOp:Op→Bool
 | .move _=>true
 | .assign _=>true
 | .pick _ _ _=>true
 | .build _ _=>true
 | .load _ _=>true
 | .nilCheck _=>true
 | .binOp _ _ _ _ _=>true
 | .unOp _ _ _=>true
 | .fieldAddr _ _ _=>true
 | .field _ _ _=>true
 | .indexAddr _ _ _=>true
 | .index _ _ _=>true
 | .extract _ _=>true
 | .makeFunc _ _ _=>true
 | .call c=>match c.callee with
  | .builtin .len=>true
  | .builtin .min=>true
  | .builtin .max=>true
  | _=>false
 | _=>false
def isLoad:Op→Bool
 | .load _ _=>true
 | _=>false
def growOp:Op→Bool
 | .alloc _=>true
 | .box _ _=>true
 | .buildSlice _ _ _=>true
 | .makeSlice _ _ _=>true
 | .slice _ _ _ _ _=>true
 | .convert _ _ _=>true
 | .makeMap _ _=>true
 | _=>false
def Ran (P:Program) (B:Base) (E:Env) (o:Oper) (a:Act) (K:SV→List Entry→Prop):Prop :=
 ∃ nx v E' H' s,(execOp a.eval o).run P E.w=.ok nx E'.w∧(nx=.value v∨nx=.skip∧v=undef)∧Inv B E' H'∧E.le E'∧den E' s v∧K s H'∧
  (lightOp o.op=true→nx=.value v∧E'.w=E.w∧∀ w',(isLoad o.op=true→Stab E.w w')→(execOp a.eval o).run P w'=.ok (.value v) w')∧((lightOp o.op||growOp o.op)=true→Grow E.w E'.w)
theorem ran_value {B:Base} {E:Env} {H:List Entry} (hI:Inv B E H) {o:Oper} {a:Act} {K:SV→List Entry→Prop} {x:Sem Value} (he:execOp a.eval o=(do pure (.value (←x)):Sem Next)) (hl:isLoad o.op=true)
  (h:∃ u s E' H',E'.w=E.w∧Sees P E.w x u∧Inv B E' H'∧E.le E'∧den E' s u∧K s H'):Ran P B E o a K:=by
 obtain ⟨u,s,E',H',hw,h1,h2,h2',h3,h3'⟩:=h
 have h4:∀ w',Stab E.w w'→(execOp a.eval o).run P w'=.ok (.value u) w':=fun w' hst=>by rw [he,Sem.run_bind,h1 w' hst];rfl
 exact ⟨_,u,E',H',s,by rw [hw];exact h4 _ (Stab.refl _),.inl rfl,h2,h2',h3,h3',fun _=>⟨rfl,hw,fun w' h=>h4 w' (h hl)⟩,fun _=>by rw [hw];exact Grow.refl _⟩
theorem ran_value0 {B:Base} {E:Env} {H:List Entry} (hI:Inv B E H) {o:Oper} {a:Act} {K:SV→List Entry→Prop} {x:Sem Value} (he:execOp a.eval o=(do pure (.value (←x)):Sem Next))
  (h:∃ u s,Sees0 P x u∧den E s u∧K s H):Ran P B E o a K:=by
 obtain ⟨u,s,h1,h2,h3⟩:=h
 have h4:∀ w',(execOp a.eval o).run P w'=.ok (.value u) w':=fun w'=>by rw [he,Sem.run_bind,h1 w'];rfl
 exact ⟨_,u,E,H,s,h4 _,.inl rfl,hI,Env.le.refl E,h2,h3,fun _=>⟨rfl,rfl,fun w' _=>h4 w'⟩,fun _=>Grow.refl _⟩
theorem ran_pure {B:Base} {E:Env} {H:List Entry} (hI:Inv B E H) {o:Oper} {a:Act} {K:SV→List Entry→Prop} {u:Value} {s:SV} (he:execOp a.eval o=(pure (.value u):Sem Next))
  (h2:den E s u) (h3:K s H):Ran P B E o a K :=
 ⟨_,u,E,H,s,by rw [he];rfl,.inl rfl,hI,Env.le.refl E,h2,h3,fun _=>⟨rfl,rfl,fun w' _=>by rw [he];rfl⟩,fun _=>Grow.refl _⟩
theorem ran_value' {B:Base} {E:Env} {o:Oper} {a:Act} {K:SV→List Entry→Prop} {x:Sem Value} (he:execOp a.eval o=(do pure (.value (←x)):Sem Next)) (hl:lightOp o.op=false)
  (h:∃ u E' H' s,x.run P E.w=.ok u E'.w∧Inv B E' H'∧E.le E'∧den E' s u∧K s H'∧Grow E.w E'.w):Ran P B E o a K:=by
 obtain ⟨u,E',H',s,h1,h2,h3,h4,h5,h6⟩:=h
 exact ⟨_,u,E',H',s,by rw [he,Sem.run_bind,h1];rfl,.inl rfl,h2,h3,h4,h5,fun e=>(by rw [hl] at e;cases e),fun _=>h6⟩
theorem ran_value2 {B:Base} {E:Env} {o:Oper} {a:Act} {K:SV→List Entry→Prop} {x:Sem Value} (he:execOp a.eval o=(do pure (.value (←x)):Sem Next)) (hl:(lightOp o.op||growOp o.op)=false)
  (h:∃ u E' H' s,x.run P E.w=.ok u E'.w∧Inv B E' H'∧E.le E'∧den E' s u∧K s H'):Ran P B E o a K:=by
 obtain ⟨u,E',H',s,h1,h2,h3,h4,h5⟩:=h
 have hl':lightOp o.op=false:=by cases h:lightOp o.op<;>simp [h] at hl ⊢
 exact ⟨_,u,E',H',s,by rw [he,Sem.run_bind,h1];rfl,.inl rfl,h2,h3,h4,h5,fun e=>(by rw [hl'] at e;cases e),fun e=>(by rw [hl] at e;cases e)⟩
theorem parts_map (a:Act) (ps:Array (Nat×Operand)):(ps.map fun x=>(x.1,a.eval x.2)).toList=ps.toList.map fun x=>(x.1,a.eval x.2):=by simp
theorem opK_ok {Δ:Tab} (hΔ:Δ.ok P) {B:Base} {E:Env} {H:List Entry} (hI:Inv B E H) {regs:List SV} {a:Act} (hd:dens E regs a.tmps.toList) {o:Oper} {K:SV→List Entry→Prop}
  (h:opK Δ regs H o.op K):Ran P B E o a K:=by
 obtain ⟨dst,op,type,pos,after,guard⟩:=o
 simp only at h
 have val:∀ {x:Operand} (op':Op),(execOp a.eval ⟨dst,op',type,pos,after,guard⟩=pure (.value (a.eval x)))→(evalO regs x fun s=>K s H)→Ran P B E ⟨dst,op',type,pos,after,guard⟩ a K:=by
  intro x op' he h
  obtain ⟨s,hs,h⟩:=evalO_ok hd h
  exact ran_pure hI he hs h
 unfold opK at h
 split at h
 ·exact val _ rfl h
 ·exact val _ rfl h
 ·rename_i c x y
  obtain ⟨s,hs,h⟩:=evalO_ok hd h
  split at h
  ·simp only [den] at hs
   obtain ⟨s',hs',h⟩:=evalO_ok hd h
   exact ran_pure hI (u:=a.eval x) (by simp [execOp,hs,asBool]) hs' h
  ·simp only [den] at hs
   obtain ⟨s',hs',h⟩:=evalO_ok hd h
   exact ran_pure hI (u:=a.eval y) (by simp [execOp,hs,asBool]) hs' h
  ·rename_i p
   simp only [den] at hs
   cases p
   ·obtain ⟨s',hs',h⟩:=evalO_ok hd (h.2 rfl)
    exact ran_pure hI (u:=a.eval y) (by simp [execOp,hs,asBool]) hs' h
   ·obtain ⟨s',hs',h⟩:=evalO_ok hd (h.1 rfl)
    exact ran_pure hI (u:=a.eval x) (by simp [execOp,hs,asBool]) hs' h
  ·exact h.elim
 ·obtain ⟨ti,ht,h⟩:=tlook_ok Δ hΔ h
  exact ran_value' rfl rfl (allocK_ok hI ht h)
 ·obtain ⟨s,hs,h⟩:=evalO_ok hd h
  exact ran_value' rfl rfl (boxK_ok hI hs h)
 ·rename_i T ps
  obtain ⟨ti,ht,h⟩:=tlook_ok Δ hΔ h
  obtain ⟨l,hl,h⟩:=partsR_ok hd _ h
  exact ran_value0 hI rfl (buildK_ok ht (by rw [parts_map];exact hl) h)
 ·rename_i T n ps
  obtain ⟨ti,ht,h⟩:=tlook_ok Δ hΔ h
  obtain ⟨l,hl,h⟩:=partsR_ok hd _ h
  exact ran_value' rfl rfl (buildSliceD_ok hI ht (by rw [parts_map];exact hl) h)
 ·obtain ⟨ti,ht,h⟩:=tlook_ok Δ hΔ h
  obtain ⟨s,hs,h⟩:=evalO_ok hd h
  exact ran_value hI rfl rfl (loadS_ok hI ht hs h)
 ·obtain ⟨ti,ht,h⟩:=tlook_ok Δ hΔ h
  obtain ⟨sa,hsa,h⟩:=evalO_ok hd h
  obtain ⟨sx,hsx,h⟩:=evalO_ok hd h
  obtain ⟨E',H',h1,h2,h3,h4⟩:=storeS_ok hI ht hsa hsx h
  exact ⟨.skip,undef,E',H',.tup [],by simp [execOp,h1],.inr ⟨rfl,rfl⟩,h2,h3,by simp only [den];exact ⟨[],rfl,trivial⟩,h4,fun e=>(by cases e),fun e=>(by cases e)⟩
 ·obtain ⟨s0,hs0,h⟩:=evalO_ok hd h
  obtain ⟨s,hs,h⟩:=derefK_ok hs0 h
  split at h
  ·rename_i hp
   rcases nilCheck_ok hs hp with ⟨p,hv⟩ | ⟨f,cs,hv⟩
   ·exact ran_pure hI (by simp [execOp,hv];rfl) (by rw [←hv];exact hs) h
   ·exact ran_pure hI (by simp [execOp,hv];rfl) (by rw [←hv];exact hs) h
  ·exact h.elim
 ·obtain ⟨sx,hsx,h⟩:=evalO_ok hd h
  obtain ⟨sy,hsy,h⟩:=evalO_ok hd h
  obtain ⟨r,s,h1,h2,h3⟩:=bin2K_ok (P:=P) hΔ h hsx hsy _ _
  exact ran_value0 hI rfl ⟨r,s,h1,h2,h3⟩
 ·obtain ⟨sx,hsx,h⟩:=evalO_ok hd h
  obtain ⟨r,s,h1,h2,h3⟩:=unK_ok (P:=P) h hsx
  exact ran_value0 hI rfl ⟨r,s,h1,h2,h3⟩
 ·obtain ⟨ts,hts,h⟩:=tlook_ok Δ hΔ h
  obtain ⟨td,htd,h⟩:=tlook_ok Δ hΔ h
  obtain ⟨s,hs,h⟩:=evalO_ok hd h
  split at h
  ·rename_i hk1 hk2
   obtain ⟨te,hte,h⟩:=tlook_ok Δ hΔ h
   obtain ⟨u,r,h1,h2,h3⟩:=convBK_ok (P:=P) hI hts hk1 htd hk2 hte hs h
   exact ran_value' rfl rfl ⟨u,E,H,r,h1,hI,Env.le.refl E,h2,h3,Grow.refl _⟩
  ·obtain ⟨u,r,h1,h2,h3⟩:=convK_ok (P:=P) hts htd hs h
   exact ran_value0 hI rfl ⟨u,r,h1,h2,h3⟩
 ·rename_i f first caps
  split at h
  ·rename_i hf
   obtain ⟨caps⟩:=caps
   obtain ⟨l,hl,h⟩:=evalL_ok hd _ h
   have hf':first=#[]:=Array.eq_empty_of_size_eq_zero hf
   subst hf'
   refine ran_value0 hI rfl ⟨_,_,fun w=>rfl,?_,h⟩
   simp only [den]
   exact ⟨_,by simp,hl⟩
  ·exact h.elim
 ·obtain ⟨ti,ht,h⟩:=tlook_ok Δ hΔ h
  obtain ⟨sl,hsl,h⟩:=evalO_ok hd h
  obtain ⟨sc,hsc,h⟩:=evalO_ok hd h
  exact ran_value' rfl rfl (makeD_ok hI ht hsl hsc h)
 ·obtain ⟨ti,ht,h⟩:=tlook_ok Δ hΔ h
  obtain ⟨s,hs,h⟩:=evalO_ok hd h
  exact ran_value' rfl rfl (sliceD_ok hI hd ht hs h)
 ·obtain ⟨ti,ht,h⟩:=tlook_ok Δ hΔ h
  obtain ⟨s,hs,h⟩:=evalO_ok hd h
  exact ran_value0 hI rfl (fieldAddrK_ok ht hs h)
 ·obtain ⟨ti,ht,h⟩:=tlook_ok Δ hΔ h
  obtain ⟨s,hs,h⟩:=evalO_ok hd h
  exact ran_value0 hI rfl (fieldK_ok ht hs h)
 ·rename_i T x i
  obtain ⟨ti,ht,h⟩:=tlook_ok Δ hΔ h
  obtain ⟨s,hs,h⟩:=evalO_ok hd h
  cases i with
  | const v =>
   obtain ⟨si,hsi,h⟩:∃ si,(∀ j,constIx (.const v)=some j→∀ k i,si=.int k i→i=(j:Int))∧den E si v∧indexAddrK ti s si (.const v) H fun r=>K r H:=by
    have h':=h
    obtain ⟨si,hsi,h⟩:=evalO_ok hd h
    have hsi':den E si v:=hsi
    refine ⟨si,fun j hj k i hsi2=>?_,hsi',h⟩
    subst hsi2
    simp only [den] at hsi'
    subst hsi'
    simp only [constIx] at hj
    split at hj
    ·simp at hj;subst hj;rfl
    ·cases hj
   exact ran_value0 hI rfl (indexAddrK_ok hI ht hs h.1 h.2 hsi)
  | tmp t =>
   obtain ⟨si,hsi,h⟩:=evalO_ok hd h
   exact ran_value0 hI rfl (indexAddrK_ok hI ht hs hsi h (fun j hj=>by simp [constIx] at hj))
  | global g=>exact h.elim
  | func f =>
   obtain ⟨si,hsi,h⟩:=evalO_ok hd h
   exact ran_value0 hI rfl (indexAddrK_ok hI ht hs hsi h (fun j hj=>by simp [constIx] at hj))
 ·obtain ⟨ti,ht,h⟩:=tlook_ok Δ hΔ h
  obtain ⟨s,hs,h⟩:=evalO_ok hd h
  obtain ⟨si,hsi,h⟩:=evalO_ok hd h
  obtain ⟨u,r,h1,h2,h3⟩:=strIxK_ok (P:=P) ht hs hsi h
  exact ran_value0 hI rfl ⟨u,r,h1,h2,h3⟩
 ·obtain ⟨s,hs,h⟩:=evalO_ok hd h
  obtain ⟨u,r,h1,h2,h3⟩:=tupK_ok (P:=P) hs h
  exact ran_value0 hI rfl ⟨u,r,h1,h2,h3⟩
 ·obtain ⟨ti,ht,h⟩:=tlook_ok Δ hΔ h
  exact ran_value' rfl rfl (makeMapK_ok hI ht h)
 ·obtain ⟨ti,ht,h⟩:=tlook_ok Δ hΔ h
  obtain ⟨sx,hsx,h⟩:=evalO_ok hd h
  obtain ⟨si,hsi,h⟩:=evalO_ok hd h
  obtain ⟨u,r,h1,h2,h3⟩:=lookupK_ok (P:=P) hΔ hI ht hsx hsi h
  exact ran_value' rfl rfl ⟨u,E,H,r,h1,hI,Env.le.refl E,h2,h3,Grow.refl _⟩
 ·obtain ⟨ti,ht,h⟩:=tlook_ok Δ hΔ h
  obtain ⟨sx,hsx,h⟩:=evalO_ok hd h
  obtain ⟨si,hsi,h⟩:=evalO_ok hd h
  obtain ⟨sy,hsy,h⟩:=evalO_ok hd h
  obtain ⟨E',H',h1,h2,h3,h4⟩:=updateK_ok (P:=P) hΔ hI ht hsx hsi hsy h
  exact ⟨.skip,undef,E',H',.tup [],by simp [execOp,h1],.inr ⟨rfl,rfl⟩,h2,h3,by simp only [den];exact ⟨[],rfl,trivial⟩,h4,fun e=>(by cases e),fun e=>(by cases e)⟩
 ·rename_i c
  obtain ⟨callee,args,argTypes⟩:=c
  obtain ⟨args⟩:=args
  obtain ⟨argTypes⟩:=argTypes
  simp only at h
  split at h
  ·rename_i x T
   obtain ⟨ti,ht,h⟩:=tlook_ok Δ hΔ h
   obtain ⟨s,hs,h⟩:=evalO_ok hd h
   obtain ⟨u,r,h1,h2,h3⟩:=lenK_ok (ty:=type) hI ht hs h
   exact ran_value0 hI (x:=Builtin.len_ #[T] type #[a.eval x]) (by simp only [execOp,resolve,invoke,builtin,pure_bind,List.map_toArray,List.map_cons,List.map_nil]) ⟨u,r,h1,h2,h3⟩
  ·rename_i x y T T'
   split at h
   ·rename_i hTT;subst hTT
    obtain ⟨ti,ht,h⟩:=tlook_ok Δ hΔ h
    obtain ⟨sx,hsx,h⟩:=evalO_ok hd h
    obtain ⟨sy,hsy,h⟩:=evalO_ok hd h
    exact ran_value2 (x:=Builtin.append_ #[T,T] type #[a.eval x,a.eval y]) (by simp only [execOp,resolve,invoke,builtin,pure_bind,List.map_toArray,List.map_cons,List.map_nil]) rfl (appendD_ok (ty:=type) hI ht hsx hsy h)
   ·exact h.elim
  ·rename_i x r
   obtain ⟨s,hs,h⟩:=evalO_ok hd h
   obtain ⟨l,hl,h⟩:=evalL_ok hd _ h
   obtain ⟨u,r',h1,h2,h3⟩:=minK_ok (P:=P) (mx:=false) l s _ _ hs hl h
   exact ran_value0 hI (x:=Builtin.min_ argTypes.toArray type ((x::r).toArray.map a.eval)) (by simp only [execOp,resolve,invoke,builtin,pure_bind]) ⟨u,r',fun w=>by simpa [Builtin.min_] using h1 w,h2,h3⟩
  ·rename_i x r
   obtain ⟨s,hs,h⟩:=evalO_ok hd h
   obtain ⟨l,hl,h⟩:=evalL_ok hd _ h
   obtain ⟨u,r',h1,h2,h3⟩:=minK_ok (P:=P) (mx:=true) l s _ _ hs hl h
   exact ran_value0 hI (x:=Builtin.max_ argTypes.toArray type ((x::r).toArray.map a.eval)) (by simp only [execOp,resolve,invoke,builtin,pure_bind]) ⟨u,r',fun w=>by simpa [Builtin.max_] using h1 w,h2,h3⟩
  ·exact h.elim
 ·exact h.elim
end
end Go.Sx
