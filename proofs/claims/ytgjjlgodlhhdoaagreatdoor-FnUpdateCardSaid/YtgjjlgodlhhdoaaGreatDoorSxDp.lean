/-
  Memory owned within owned memory: which lists inside a datum lie in blocks of their own, and in which.
-/
import Derived.Test.YtgjjlgodlhhdoaaGreatDoorSxBase
namespace Go.Sx
set_option linter.unusedVariables false
set_option linter.unusedSimpArgs false
inductive Dp
 | flat (t:Ty)
 | ol (et:TypeId) (e:Dp)
 | pair (a b:Dp)
 | mp (k v:Ty)
 deriving DecidableEq
@[reducible] def Dp.ty:Dp->Ty
 | .flat t=>t
 | .ol _ e=>.sl e.ty
 | .pair a b=>.pair a.ty b.ty
 | .mp k v=>.mp k v
def Yh:Value->Option Nat
 | .pointer (some a)=>some a.block
 | .slice (some a) _ _=>some a.block
 | .map (some b)=>some b
 | _=>none
def JV {α:Type} (R:α->List Value->List Nat->Prop):List α->List Value->List Nat->Prop
 | [],xs,fp=>xs=[]/\fp=[]
 | d::l,xs,fp=>∃ v1 v2 f1 f2,xs=v1++v2/\fp=f1++f2/\R d v1 f1/\JV R l v2 f2
def Zfj (S:Nat->Prop) (w:World):(e:Dp)->e.ty.den->List Value->List Nat->Prop
 | .flat t,d,vs,fp=>fp=[]/\rep S w t d vs
 | .ol et e,l,vs,fp=>∃ v xs fps,vs=[v]/\w.Q8 0 et e.ty.size v l.length xs/\JV (Zfj S w e) l xs fps/\fp=(Yh v).toList++fps
 | .pair a b,d,vs,fp=>∃ v1 v2 f1 f2,vs=v1++v2/\fp=f1++f2/\Zfj S w a d.1 v1 f1/\Zfj S w b d.2 v2 f2
 | .mp k v,d,vs,fp=>∃ b es clk,vs=[.map (some b)]/\fp=[b]/\w.heap[b]?=some (.map es clk)/\ZcX (rep S w k) (rep S w v) k.agg v.agg d es.toList
theorem Xk {α:Type} {R R':α->List Value->List Nat->Prop}:∀ (l:List α) (xs:List Value) (fp:List Nat),(∀ d vs f,(∀ g∈f,g∈fp)->R d vs f->R' d vs f)->JV R l xs fp->JV R' l xs fp
 | [],_,_,_,e=>e
 | _::l,_,fp,h,⟨v1,v2,f1,f2,e,ef,r,rs⟩=>⟨v1,v2,f1,f2,e,ef,h _ _ _ (λg hg=>by rw[ef];simp[hg]) r,
   Xk l _ _ (λd vs f hf=>h d vs f (λg hg=>by rw[ef];simp[hf g hg])) rs⟩
theorem Zeo {w w':World} {base:Nat} {et:TypeId} {sz n:Nat} {v:Value} {xs:List Value} (h:w.Q8 base et sz v n xs) (hb:∀ g,Yh v=some g->w'.heap[g]?=w.heap[g]?):w'.Q8 base et sz v n xs:=by
 refine ⟨h.1,?_⟩;rcases h.2 with hn | ⟨g,cap,cur,o,rfl,hg,hh,r⟩
 ·exact .inl hn
 ·exact .inr ⟨g,cap,cur,o,rfl,hg,by rw[hb g rfl];exact hh,r⟩
theorem Ye {S S':Nat->Prop} {w w':World} (hS:∀ b,S b->S' b) (hw:∀ b,S b->w'.heap[b]?=w.heap[b]?) :
  ∀ (e:Dp) (d:e.ty.den) (vs:List Value) (fp:List Nat),(∀ g∈fp,w'.heap[g]?=w.heap[g]?)->Zfj S w e d vs fp->Zfj S' w' e d vs fp
 | .flat t,_,_,_,_,⟨h1,h2⟩=>⟨h1,Z7 hS hw t _ _ h2⟩
 | .ol et e,_,_,fp,hf,⟨v,xs,fps,e1,ho,hr,e2⟩=>⟨v,xs,fps,e1,Zeo ho (λg hg=>hf g (by rw[e2];simp[hg])),
   Xk _ _ _ (λd vs f hsub=>Ye hS hw e d vs f (λg hg=>hf g (by rw[e2];simp[hsub g hg]))) hr,e2⟩
 | .mp k v,_,_,fp,hf,⟨b,es,clk,e1,e2,hh,h⟩=>⟨b,es,clk,e1,e2,by rw[hf b (by rw[e2];simp)];exact hh,Zan (λd vs=>Z7 hS hw k d vs) (λd vs=>Z7 hS hw v d vs) _ _ h⟩
 | .pair a b,_,_,fp,hf,⟨v1,v2,f1,f2,e1,e2,h1,h2⟩=>⟨v1,v2,f1,f2,e1,e2,Ye hS hw a _ _ _ (λg hg=>hf g (by rw[e2];simp[hg])) h1,Ye hS hw b _ _ _ (λg hg=>hf g (by rw[e2];simp[hg])) h2⟩
theorem ZaB {S:Nat->Prop} {w:World}:∀ (e:Dp) (d:e.ty.den) (vs:List Value) (fp:List Nat),Zfj S w e d vs fp->vs.length=e.ty.size
 | .flat t,_,_,_,⟨_,h⟩=>Xj t _ _ h
 | .ol et e,_,_,_,⟨v,xs,fps,e1,_⟩=>by subst e1;rfl
 | .mp _ _,_,_,_,⟨b,es,clk,e1,_⟩=>by subst e1;rfl
 | .pair a b,_,_,_,⟨v1,v2,f1,f2,e1,e2,h1,h2⟩=>by
   have h3:=ZaB a _ _ _ h1;have h4:=ZaB b _ _ _ h2;subst e1;simp[Dp.ty,Ty.size,h3,h4]
theorem ZfG {α:Type} {R:α->List Value->List Nat->Prop} {R':α->List Value->Prop}:∀ (l:List α) (xs:List Value) (fp:List Nat),(∀ d vs f,(∀ g∈f,g∈fp)->R d vs f->R' d vs)->JV R l xs fp->XZ R' l xs
 | [],_,_,_,e=>e.1
 | _::l,_,fp,h,⟨v1,v2,f1,f2,e,ef,r,rs⟩=>⟨v1,v2,e,h _ _ _ (λg hg=>by rw[ef];simp[hg]) r,
   ZfG l _ _ (λd vs f hf=>h d vs f (λg hg=>by rw[ef];simp[hf g hg])) rs⟩
theorem ZnL {S:Nat->Prop} {w:World} {et:TypeId} {t:Ty} {d:List t.den} {v:Value} {xs:List Value} (h2:w.Q8 0 et t.size v d.length xs) (h3:XZ (rep S w t) d xs) (hb:∀ g,Yh v=some g->S g):rep S w (.sl t) d [v]:=by
 rcases h2.2 with ⟨rfl,hn⟩ | ⟨g,cap,cur,o,rfl,_,hh,hc,_⟩
 ·exact ⟨none,0,by rw[hn],by omega,λ_=>rfl,.inl (List.eq_nil_of_length_eq_zero hn)⟩
 ·exact ⟨_,cap,rfl,hc,λe=>by simp at e,.inr ⟨_,xs,rfl,rfl,hb g rfl,h2.Zfp rfl,h3⟩⟩
theorem Zed {S S':Nat->Prop} {w:World} (hS:∀ b,S b->S' b):∀ (e:Dp) (d:e.ty.den) (vs:List Value) (fp:List Nat),(∀ g∈fp,S' g)->Zfj S w e d vs fp->rep S' w e.ty d vs
 | .flat t,_,_,_,_,⟨_,h⟩=>Z7 hS (λ_ _=>rfl) t _ _ h
 | .ol et e,_,_,fp,hf,⟨v,xs,fps,e1,ho,hr,e2⟩=>by
   subst e1;exact ZnL ho (ZfG _ _ _ (λd vs f hsub h=>Zed hS e d vs f (λg hg=>hf g (by rw[e2];simp[hsub g hg])) h) hr) (λg hg=>hf g (by rw[e2];simp[hg]))
 | .mp k v,_,_,fp,hf,⟨b,es,clk,e1,e2,hh,h⟩=>.inr ⟨b,es,clk,e1,hf b (by rw[e2];simp),hh,Zan (λd vs=>Z7 hS (λ_ _=>rfl) k d vs) (λd vs=>Z7 hS (λ_ _=>rfl) v d vs) _ _ h⟩
 | .pair a b,_,_,fp,hf,⟨v1,v2,f1,f2,e1,e2,h1,h2⟩=>⟨v1,v2,e1,Zed hS a _ _ _ (λg hg=>hf g (by rw[e2];simp[hg])) h1,Zed hS b _ _ _ (λg hg=>hf g (by rw[e2];simp[hg])) h2⟩
theorem ZnT {α:Type} {R:α->List Value->List Nat->Prop} {n:Nat} (hn:∀ d vs f,R d vs f->vs.length=n):∀ l xs fp,JV R l xs fp->xs.length=l.length*n
 | [],xs,fp,e=>by rw[e.1];simp
 | d::l,xs,fp,⟨v1,v2,f1,f2,e,ef,r,rs⟩=>by
   subst e;have h1:=hn _ _ _ r;have h2:=ZnT hn l _ _ rs;simp[h1,h2,Nat.succ_mul,Nat.add_comm]
theorem ZeN {α:Type} {R:α->List Value->List Nat->Prop}:∀ l l' xs xs' fp fp',JV R l xs fp->JV R l' xs' fp'->JV R (l++l') (xs++xs') (fp++fp')
 | [],_,_,_,_,_,⟨e1,e2⟩,h=>by subst e1;subst e2;exact h
 | d::l,l',_,xs',_,fp',⟨v1,v2,f1,f2,e,ef,r,rs⟩,h=>⟨v1,v2++xs',f1,f2++fp',by subst e;simp,by subst ef;simp,r,ZeN l l' v2 xs' f2 fp' rs h⟩
def Zw2 (S:Nat->Prop) (w:World) (et:TypeId) (e:Dp) (d:List e.ty.den) (n:Int) (v:Value) (fp:List Nat):Prop :=
 ∃ xs x1 x2 f1,w.Q8 0 et e.ty.size v d.length xs/\0<=n/\n<=(d.length:Int)/\xs=x1++x2/\x1.length=n.toNat*e.ty.size/\JV (Zfj S w e) (d.take n.toNat) x1 f1/\XZ (rep S w e.ty) (d.drop n.toNat) x2/\fp=(Yh v).toList++f1
theorem ZkN {S S':Nat->Prop} {w w':World} (hS:∀ b,S b->S' b) (hw:∀ b,S b->w'.heap[b]?=w.heap[b]?) {et:TypeId} {e:Dp} {d:List e.ty.den} {n:Int} {v:Value} {fp:List Nat} (hf:∀ g∈fp,w'.heap[g]?=w.heap[g]?) (h:Zw2 S w et e d n v fp):Zw2 S' w' et e d n v fp:=by
 obtain ⟨xs,x1,x2,f1,ho,h0,h1,ex,el,hr1,hr2,e2⟩:=h;exact ⟨xs,x1,x2,f1,Zeo ho (λg hg=>hf g (by rw[e2];simp[hg])),h0,h1,ex,el,Xk _ _ _ (λd vs f hs=>Ye hS hw e d vs f (λg hg=>hf g (by rw[e2];simp[hs g hg]))) hr1,QD (λd vs=>Z7 hS hw e.ty d vs) _ _ hr2,e2⟩
theorem ZkP {α:Type} {R:α->List Value->List Nat->Prop} {n:Nat} (hn:∀ d vs f,R d vs f->vs.length=n):∀ l xs fp,JV R l xs fp->∀ i x,l[i]?=some x->
  ∃ x1 vx x2 f1 fx f2,xs=x1++vx++x2/\fp=f1++fx++f2/\x1.length=i*n/\JV R (l.take i) x1 f1/\R x vx fx/\JV R (l.drop (i+1)) x2 f2
 | [],_,_,_,i,x,h=>by simp at h
 | d::l,_,_,⟨v1,v2,f1,f2,e,ef,r,rs⟩,0,x,h=>by
   simp at h;subst h;exact ⟨[],v1,v2,[],f1,f2,by simp[e],by simp[ef],by simp,⟨rfl,rfl⟩,r,by simpa using rs⟩
 | d::l,_,_,⟨v1,v2,f1,f2,e,ef,r,rs⟩,i+1,x,h=>by
   obtain ⟨x1,vx,x2,g1,gx,g2,e1,e2,e3,h1,h2,h3⟩:=ZkP hn l v2 f2 rs i x (by simpa using h);have hl:=hn _ _ _ r;refine ⟨v1++x1,vx,x2,f1++g1,gx,g2,by rw[e,e1];simp,by rw[ef,e2];simp,by rw[List.length_append,e3,hl,Nat.succ_mul];omega,⟨v1,x1,f1,g1,rfl,rfl,r,h1⟩,h2,by simpa using h3⟩
theorem ZqX {α:Type} {R:α->List Value->List Nat->Prop} {l:List α} {i:Nat} {x:α} {x1 vx x2:List Value} {f1 fx f2:List Nat} (hi:i<l.length) (h1:JV R (l.take i) x1 f1) (hx:R x vx fx)
  (h2:JV R (l.drop (i+1)) x2 f2):JV R (l.set i x) (x1++vx++x2) (f1++fx++f2):=by
 rw[List.set_eq_take_append_cons_drop,if_pos hi,List.append_assoc,List.append_assoc];exact ZeN _ _ _ _ _ _ h1 ⟨vx,x2,fx,f2,rfl,rfl,hx,h2⟩
end Go.Sx
