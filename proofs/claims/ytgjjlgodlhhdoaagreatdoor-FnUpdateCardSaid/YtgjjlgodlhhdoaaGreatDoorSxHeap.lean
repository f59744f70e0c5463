/-
  The abstract heap of a call: which blocks are its own, what they hold; how it fares when the world grows, or one block is written.
-/
import Derived.Test.YtgjjlgodlhhdoaaGreatDoorSxDp
namespace Go.Sx
set_option linter.unusedVariables false
set_option linter.unusedSimpArgs false
def Zmd (w w':World):Prop:=∀ p u,w.cell? p=some u->w'.cell? p=some u
theorem Zmd.refl (w:World):Zmd w w:=λ_ _ h=>h
theorem Zmd.trans {a b c:World} (h:Zmd a b) (h':Zmd b c):Zmd a c:=λp u hu=>h' p u (h p u hu)
def Grow (w w':World):Prop:=∀ b,b<w.heap.size->w'.heap[b]?=w.heap[b]?
theorem Grow.refl (w:World):Grow w w:=λ_ _=>rfl
theorem Grow.ZBJ {w w':World} (h:Grow w w'):Zmd w w':=by
 intro p u hu;rw[World.cell?_of_block (w:=w) (w':=w') (a:=p) ?_]
 ·exact hu
 ·refine h _ ?_
  refine Nat.lt_of_not_le λhle=>?_;unfold World.cell? at hu;rw[Array.getElem?_eq_none hle] at hu;simp at hu
def Ztm (P:Program) (w:World) (x:Sem Value) (u:Value):Prop:=∀ w',Zmd w w'->x.run P w'=.ok u w'
def Zlb (P:Program) (x:Sem Value) (u:Value):Prop:=∀ w',x.run P w'=.ok u w'
theorem Ztm.here {P:Program} {w:World} {x:Sem Value} {u:Value} (h:Ztm P w x u):x.run P w=.ok u w:=h w (Zmd.refl w)
inductive Entry
 | gone
 | box (cells:List SV)
 | arr (et:TypeId) (t:Ty) (d:List t.den)
 | frz (t:Ty) (d:List t.den)
 | fbx (cells:List SV)
 | darr (et:TypeId) (e:Dp) (d:List e.ty.den) (fp:List Nat)
 | hole (et:TypeId) (e:Dp) (d:List e.ty.den) (i:Int) (cells:List SV) (fp:List Nat)
 | mpe (k v:Ty) (d:List (k.den×v.den))
 | spl (et:TypeId) (e:Dp) (d:List e.ty.den) (n:Int) (fp:List Nat)
 | hsp (et:TypeId) (e:Dp) (d:List e.ty.den) (i:Int) (cells:List SV) (fp:List Nat)
 | frm (k v:Ty) (d:List (k.den×v.den))
def Entry.live:Entry->Bool
 | .box _=>true
 | .arr _ _ _=>true
 | .darr _ _ _ _=>true
 | .hole _ _ _ _ _ _=>true
 | .mpe _ _ _=>true
 | .spl _ _ _ _ _=>true
 | .hsp _ _ _ _ _ _=>true
 | _=>false
def ZeY:Entry->Value->Nat->Prop
 | .darr _ _ _ fp,_,g=>g∈fp
 | .hole _ _ _ _ _ fp,_,g=>g∈fp
 | .spl _ _ _ _ fp,_,g=>g∈fp
 | .hsp _ _ _ _ _ fp,_,g=>g∈fp
 | _,v,g=>Yh v=some g
def Zpr (E:Env) (id:Nat):Entry->Prop
 | .gone=>True
 | .box cells=>∃ b cs T,E.ids[id]?=some (.pointer (some ⟨b,0,none⟩))/\E.w.heap[b]?=some (.cells cs T (0,0))/\ZT E cells cs.toList
 | .arr et t d=>∃ v xs,E.ids[id]?=some v/\E.w.Q8 0 et t.size v d.length xs/\XZ (rep E.S E.w t) d xs
 | .frz t d=>∃ v,E.ids[id]?=some v/\rep E.S E.w (.sl t) d [v]
 | .fbx cells=>∃ b cs T,E.ids[id]?=some (.pointer (some ⟨b,0,none⟩))/\E.S b/\E.w.heap[b]?=some (.cells cs T (0,0))/\ZT E cells cs.toList
 | .darr et e d fp=>∃ v xs fps,E.ids[id]?=some v/\E.w.Q8 0 et e.ty.size v d.length xs/\JV (Zfj E.S E.w e) d xs fps/\fp=(Yh v).toList++fps/\fp.Nodup
 | .hole et e d i cells fp=>∃ v xs x1 vx x2 f1 f2,E.ids[id]?=some v/\E.w.Q8 0 et e.ty.size v d.length xs/\0<=i/\i<(d.length:Int)/\xs=x1++vx++x2/\x1.length=i.toNat*e.ty.size/\vx.length=e.ty.size/\
   JV (Zfj E.S E.w e) (d.take i.toNat) x1 f1/\JV (Zfj E.S E.w e) (d.drop (i.toNat+1)) x2 f2/\ZT E cells vx/\fp=(Yh v).toList++f1++f2/\fp.Nodup
 | .spl et e d n fp=>∃ v,E.ids[id]?=some v/\Zw2 E.S E.w et e d n v fp/\fp.Nodup
 | .hsp et e d i cells fp=>∃ v xs x1 vx x2 f1,E.ids[id]?=some v/\E.w.Q8 0 et e.ty.size v d.length xs/\0<=i/\i<(d.length:Int)/\xs=x1++vx++x2/\x1.length=i.toNat*e.ty.size/\vx.length=e.ty.size/\
   JV (Zfj E.S E.w e) (d.take i.toNat) x1 f1/\XZ (rep E.S E.w e.ty) (d.drop (i.toNat+1)) x2/\ZT E cells vx/\fp=(Yh v).toList++f1/\fp.Nodup
 | .mpe k v d=>∃ b es clk,E.ids[id]?=some (.map (some b))/\E.w.heap[b]?=some (.map es clk)/\ZcX (rep E.S E.w k) (rep E.S E.w v) k.agg v.agg d es.toList
 | .frm k v d=>∃ u,E.ids[id]?=some u/\rep E.S E.w (.mp k v) d [u]
structure Base where
 w:World
 S:Nat->Prop
 io:Nat->Prop
 pin:List Value
structure Keeps (B:Base) (w:World):Prop where
 os:w.os=B.w.os
 tape:w.tape=B.w.tape
 output:w.output=B.w.output
 size:B.w.heap.size<=w.heap.size
 block:∀ b,b<B.w.heap.size->¬B.io b->w.heap[b]?=B.w.heap[b]?
structure Inv (B:Base) (E:Env) (H:List Entry):Prop where
 keeps:Keeps B E.w
 Slt:∀ b,E.S b->b<E.w.heap.size
 Sold:∀ b,E.S b->b<B.w.heap.size->B.S b\/B.io b
 len:E.ids.length=H.length
 pin:∀ (i:Nat) (v:Value),B.pin[i]?=some v->E.ids[i]?=some v
 ent:∀ (i:Nat) (e:Entry),H[i]?=some e->Zpr E i e
 free:∀ (i:Nat) (e:Entry) (v:Value) (g:Nat),H[i]?=some e->e.live=true->E.ids[i]?=some v->ZeY e v g->¬E.S g/\(B.w.heap.size<=g\/B.io g)/\g<E.w.heap.size
 sep:∀ (i j:Nat) (ei ej:Entry) (vi vj:Value) (g:Nat),H[i]?=some ei->H[j]?=some ej->ei.live=true->ej.live=true->
  E.ids[i]?=some vi->E.ids[j]?=some vj->ZeY ei vi g->ZeY ej vj g->i=j
theorem Zrp (v:Value) (g:Nat) (h:v.ownBlock=some g):Yh v=some g:=by
 cases v with
 | slice a n c=>cases a<;>simp_all[Value.ownBlock,Yh]
 | _=>simp[Value.ownBlock] at h
theorem Zaz {w:World} {base:Nat} {e:TypeId} {size:Nat} {v:Value} {n:Nat} {xs:List Value} (h:w.Q8 base e size v n xs):Yh v=v.ownBlock:=by
 rcases h.2 with ⟨rfl,_⟩ | ⟨g,cap,cur,o,rfl,_⟩<;>rfl
theorem Zcc {E E':Env} (h:E.le E') (i:Nat) (e:Entry)
  (hb:e.live=true->∀ v g,E.ids[i]?=some v->ZeY e v g->E'.w.heap[g]?=E.w.heap[g]?) (he:Zpr E i e):Zpr E' i e:=by
 cases e with
 | gone=>trivial
 | box cells =>
  obtain ⟨b,cs,T,h1,h2,h3⟩:=he;exact ⟨b,cs,T,h.ids _ _ h1,by rw[hb rfl _ b h1 rfl];exact h2,ZE h _ _ h3⟩
 | arr et t d =>
  obtain ⟨v,xs,h1,h2,h3⟩:=he;refine ⟨v,xs,h.ids _ _ h1,⟨h2.1,?_⟩,QD (λd vs=>Z7 h.S h.w t d vs) _ _ h3⟩;rcases h2.2 with hn | ⟨g,cap,cur,o,rfl,hg,hh,r⟩
  ·exact .inl hn
  ·exact .inr ⟨g,cap,cur,o,rfl,hg,by rw[hb rfl _ g h1 rfl];exact hh,r⟩
 | frz t d =>
  obtain ⟨v,h1,h2⟩:=he;exact ⟨v,h.ids _ _ h1,Z7 h.S h.w (.sl t) d [v] h2⟩
 | fbx cells =>
  obtain ⟨b,cs,T,h1,h2,h3,h4⟩:=he;exact ⟨b,cs,T,h.ids _ _ h1,h.S _ h2,by rw[h.w b h2];exact h3,ZE h _ _ h4⟩
 | darr et e d fp =>
  obtain ⟨v,xs,fps,h1,ho,hr,e1,hnd⟩:=he;have hk:∀ g∈fp,E'.w.heap[g]?=E.w.heap[g]?:=λg hg=>hb rfl v g h1 hg;exact ⟨v,xs,fps,h.ids _ _ h1,Zeo ho (λg hg=>hk g (by rw[e1];simp[hg])),Xk _ _ _ (λd vs f hs=>Ye h.S h.w e d vs f (λg hg=>hk g (by rw[e1];simp[hs g hg]))) hr,e1,hnd⟩
 | spl et e d n fp =>
  obtain ⟨v,h1,hr,hnd⟩:=he;exact ⟨v,h.ids _ _ h1,ZkN h.S h.w (λg hg=>hb rfl v g h1 hg) hr,hnd⟩
 | hsp et e d i cells fp =>
  obtain ⟨v,xs,x1,vx,x2,f1,h1,ho,hi0,hi1,ex,el,el2,hr1,hr2,hd,e1,hnd⟩:=he;have hk:∀ g∈fp,E'.w.heap[g]?=E.w.heap[g]?:=λg hg=>hb rfl v g h1 hg;exact ⟨v,xs,x1,vx,x2,f1,h.ids _ _ h1,Zeo ho (λg hg=>hk g (by rw[e1];simp[hg])),hi0,hi1,ex,el,el2,
   Xk _ _ _ (λd vs f hs=>Ye h.S h.w e d vs f (λg hg=>hk g (by rw[e1];simp[hs g hg]))) hr1,
   QD (λd vs=>Z7 h.S h.w e.ty d vs) _ _ hr2,ZE h _ _ hd,e1,hnd⟩
 | mpe k v d =>
  obtain ⟨b,es,clk,h1,h2,h3⟩:=he;exact ⟨b,es,clk,h.ids _ _ h1,by rw[hb rfl _ b h1 rfl];exact h2,Zan (λd vs=>Z7 h.S h.w k d vs) (λd vs=>Z7 h.S h.w v d vs) _ _ h3⟩
 | frm k v d =>
  obtain ⟨u,h1,h2⟩:=he;exact ⟨u,h.ids _ _ h1,Z7 h.S h.w (.mp k v) d [u] h2⟩
 | hole et e d i cells fp =>
  obtain ⟨v,xs,x1,vx,x2,f1,f2,h1,ho,hi0,hi1,ex,el,el2,hr1,hr2,hd,e1,hnd⟩:=he;have hk:∀ g∈fp,E'.w.heap[g]?=E.w.heap[g]?:=λg hg=>hb rfl v g h1 hg;exact ⟨v,xs,x1,vx,x2,f1,f2,h.ids _ _ h1,Zeo ho (λg hg=>hk g (by rw[e1];simp[hg])),hi0,hi1,ex,el,el2,
   Xk _ _ _ (λd vs f hs=>Ye h.S h.w e d vs f (λg hg=>hk g (by rw[e1];simp[hs g hg]))) hr1,
   Xk _ _ _ (λd vs f hs=>Ye h.S h.w e d vs f (λg hg=>hk g (by rw[e1];simp[hs g hg]))) hr2,ZE h _ _ hd,e1,hnd⟩
theorem Zce {E:Env} {w':World} {row:Option Nat} (hg:E.w.grownBy w' row) (hS:∀ b,E.S b->b<E.w.heap.size) (hr:∀ g,row=some g->¬E.S g) :
  E.le ⟨E.S,w',E.ids⟩ :=
 ⟨λ_ h=>h,λb hb=>hg.block b (hS b hb) (λe=>hr b e.symm hb),λ_ _ h=>h⟩
theorem Keeps.grown {B:Base} {w w':World} {row:Option Nat} (h:Keeps B w) (hg:w.grownBy w' row) (hr:∀ g,row=some g->B.w.heap.size<=g\/B.io g):Keeps B w' :=
 ⟨hg.os.trans h.os,hg.tape.trans h.tape,hg.output.trans h.output,Nat.le_trans h.size hg.size,λb hb hio =>
  (hg.block b (Nat.lt_of_lt_of_le hb h.size) (λe=>by
   rcases hr b e.symm with h1 | h1
   ·omega
   ·exact hio h1)).trans (h.block b hb hio)⟩
theorem Inv.grow {B:Base} {E:Env} {H:List Entry} (h:Inv B E H) {w':World} (hg:E.w.grownBy w' none):Inv B ⟨E.S,w',E.ids⟩ H:=by
 have hle:=Zce hg h.Slt (λg e=>by simp at e);exact
  {keeps:=h.keeps.grown hg (λg e=>by simp at e)
   Slt:=λb hb=>Nat.lt_of_lt_of_le (h.Slt b hb) hg.size
   Sold:=h.Sold
   len:=h.len
   pin:=h.pin
   ent:=λi e hi=>Zcc hle i e (λhl v g hv hb=>hg.block g (h.free i e v g hi hl hv hb).2.2 (by simp)) (h.ent i e hi)
   free:=λi e v g hi hl hv hb=>let ⟨a,b,c⟩:=h.free i e v g hi hl hv hb;⟨a,b,Nat.lt_of_lt_of_le c hg.size⟩
   sep:=h.sep}
theorem Inv.Zqi {B:Base} {E:Env} {H:List Entry} (h:Inv B E H) {i:Nat} {e0:Entry} {v:Value} (hi:H[i]?=some e0) (hl:e0.live=true) (hv:E.ids[i]?=some v) {row:Option Nat} (hrow:∀ g,row=some g->ZeY e0 v g)
  {w':World} (hg:E.w.grownBy w' row) (e1:Entry) (hsub:e1.live=true->∀ g,ZeY e1 v g->ZeY e0 v g) (he1:Zpr ⟨E.S,w',E.ids⟩ i e1):Inv B ⟨E.S,w',E.ids⟩ (H.set i e1):=by
 have hle:=Zce hg h.Slt (λg e=>(h.free i e0 v g hi hl hv (hrow g e)).1);have hil:i<H.length:=(List.getElem?_eq_some_iff.1 hi).1;have old:∀ (j:Nat) (e:Entry),(H.set i e1)[j]?=some e->(j=i/\e=e1)\/(j≠i/\H[j]?=some e):=by
  intro j e hj;by_cases hji:j=i
  ·subst hji;rw[List.getElem?_set_self hil] at hj;exact .inl ⟨rfl,by simpa using hj.symm⟩
  ·rw[List.getElem?_set_ne (by omega)] at hj;exact .inr ⟨hji,hj⟩
 exact
  {keeps:=h.keeps.grown hg (λg e=>(h.free i e0 v g hi hl hv (hrow g e)).2.1)
   Slt:=λb hb=>Nat.lt_of_lt_of_le (h.Slt b hb) hg.size
   Sold:=h.Sold
   len:=by simp[h.len]
   pin:=h.pin
   ent:=λj e hj=>by
    rcases old j e hj with ⟨rfl,rfl⟩ | ⟨hne,hj'⟩
    ·exact he1
    ·exact Zcc hle j e (λhlj vj g hvj hbj=>hg.block g (h.free j e vj g hj' hlj hvj hbj).2.2 (λeq=>hne (h.sep j i e e0 vj v g hj' hi hlj hl hvj hv hbj (hrow g eq.symm)))) (h.ent j e hj')
   free:=λj e vj g hj hlj hvj hbj=>by
    rcases old j e hj with ⟨rfl,rfl⟩ | ⟨hne,hj'⟩
    ·have:=hv.symm.trans hvj;simp at this;subst this
     obtain ⟨a,b,c⟩:=h.free j e0 v g hi hl hv (hsub hlj g hbj);exact ⟨a,b,Nat.lt_of_lt_of_le c hg.size⟩
    ·obtain ⟨a,b,c⟩:=h.free j e vj g hj' hlj hvj hbj
     exact ⟨a,b,Nat.lt_of_lt_of_le c hg.size⟩
   sep:=λj k ej ek vj vk g hj hk hlj hlk hvj hvk hbj hbk=>by
    rcases old j ej hj with ⟨rfl,rfl⟩ | ⟨hne,hj'⟩
    ·have:=hv.symm.trans hvj;simp at this;subst this
     rcases old k ek hk with ⟨rfl,rfl⟩ | ⟨hnk,hk'⟩
     ·rfl
     ·exact h.sep j k e0 ek v vk g hi hk' hl hlk hv hvk (hsub hlj g hbj) hbk
    ·rcases old k ek hk with ⟨rfl,rfl⟩ | ⟨hnk,hk'⟩
     ·have:=hv.symm.trans hvk;simp at this;subst this
      exact h.sep j k ej e0 vj v g hj' hi hlj hl hvj hv hbj (hsub hlk g hbk)
     ·exact h.sep j k ej ek vj vk g hj' hk' hlj hlk hvj hvk hbj hbk}
def Entry.thin:Entry->Bool
 | .darr _ _ _ _=>false
 | .hole _ _ _ _ _ _=>false
 | .spl _ _ _ _ _=>false
 | .hsp _ _ _ _ _ _=>false
 | _=>true
theorem ZhI {e:Entry} (h:e.thin=true) (v:Value) (g:Nat):ZeY e v g<->Yh v=some g:=by
 cases e<;>first | exact Iff.rfl | cases h
theorem Inv.write {B:Base} {E:Env} {H:List Entry} (h:Inv B E H) {i:Nat} {e0:Entry} {v:Value} (hi:H[i]?=some e0) (hl:e0.live=true) (hv:E.ids[i]?=some v)
  {w':World} (hg:E.w.grownBy w' (Yh v)) (e1:Entry) (he1:Zpr ⟨E.S,w',E.ids⟩ i e1) (h0:e0.thin=true:=by rfl) (h1:e1.thin=true:=by rfl):Inv B ⟨E.S,w',E.ids⟩ (H.set i e1) :=
 h.Zqi hi hl hv (λg hg=>(ZhI h0 v g).2 hg) hg e1 (λ_ g hg=>(ZhI h0 v g).2 ((ZhI h1 v g).1 hg)) he1
theorem Inv.drop {B:Base} {E:Env} {H:List Entry} (h:Inv B E H) (i:Nat):Inv B E (H.set i .gone):=by
 have old:∀ (j:Nat) (e:Entry),(H.set i .gone)[j]?=some e->e=.gone\/H[j]?=some e:=by
  intro j e hj;by_cases hji:i=j
  ·subst hji
   have hlt:i<H.length:=by have:=(List.getElem?_eq_some_iff.1 hj).1;simpa using this
   rw[List.getElem?_set_self hlt] at hj;exact .inl (by simpa using hj.symm)
  ·rw[List.getElem?_set_ne hji] at hj;exact .inr hj
 exact
  {keeps:=h.keeps,Slt:=h.Slt,Sold:=h.Sold,len:=by simp[h.len],pin:=h.pin
   ent:=λj e hj=>by
    rcases old j e hj with rfl | hj'
    ·trivial
    ·exact h.ent j e hj'
   free:=λj e v g hj hl hv hb=>by
    rcases old j e hj with rfl | hj'
    ·simp[Entry.live] at hl
    ·exact h.free j e v g hj' hl hv hb
   sep:=λj k ej ek vj vk g hj hk hlj hlk hvj hvk hbj hbk=>by
    rcases old j ej hj with rfl | hj'
    ·simp[Entry.live] at hlj
    ·rcases old k ek hk with rfl | hk'
     ·simp[Entry.live] at hlk
     ·exact h.sep j k ej ek vj vk g hj' hk' hlj hlk hvj hvk hbj hbk}
theorem ZgZ (E:Env) (v:Value):E.le ⟨E.S,E.w,E.ids++[v]⟩ :=
 ⟨λ_ h=>h,λ_ _=>rfl,λi u hu=>by
  have:i<E.ids.length:=(List.getElem?_eq_some_iff.1 hu).1;simp[List.getElem?_append_left this,hu]⟩
theorem Inv.push {B:Base} {E:Env} {H:List Entry} (h:Inv B E H) (v:Value) (e:Entry) (he:Zpr ⟨E.S,E.w,E.ids++[v]⟩ H.length e)
  (hf:e.live=true->∀ g,ZeY e v g->¬E.S g/\(B.w.heap.size<=g\/B.io g)/\g<E.w.heap.size/\
   ∀ (j:Nat) (ej:Entry) (vj:Value),H[j]?=some ej->ej.live=true->E.ids[j]?=some vj->¬ZeY ej vj g) :
  Inv B ⟨E.S,E.w,E.ids++[v]⟩ (H++[e]):=by
 have hle:=ZgZ E v;have old:∀ (j:Nat) (ej:Entry),(H++[e])[j]?=some ej->(j=H.length/\ej=e)\/(j<H.length/\H[j]?=some ej):=by
  intro j ej hj;by_cases hlt:j<H.length
  ·rw[List.getElem?_append_left hlt] at hj;exact .inr ⟨hlt,hj⟩
  ·have h2:j<(H++[e]).length:=(List.getElem?_eq_some_iff.1 hj).1
   have:j=H.length:=by simp at h2;omega
   subst this;simp at hj;exact .inl ⟨rfl,hj.symm⟩
 have oldv:∀ (j:Nat) (u:Value),j<H.length->(E.ids++[v])[j]?=some u->E.ids[j]?=some u:=by
  intro j u hlt hu;rwa [List.getElem?_append_left (by rw[h.len];exact hlt)] at hu
 have newv:∀ (u:Value),(E.ids++[v])[H.length]?=some u->u=v:=by
  intro u hu;rw[<-h.len] at hu;simpa using hu.symm
 exact
  {keeps:=h.keeps,Slt:=h.Slt,Sold:=h.Sold,len:=by simp[h.len],pin:=λi u hu=>hle.ids i u (h.pin i u hu)
   ent:=λj ej hj=>by
    rcases old j ej hj with ⟨rfl,rfl⟩ | ⟨_,hj'⟩
    ·exact he
    ·exact Zcc hle j ej (λ_ _ _ _ _=>rfl) (h.ent j ej hj')
   free:=λj ej vj g hj hl hv hb=>by
    rcases old j ej hj with ⟨rfl,rfl⟩ | ⟨hlt,hj'⟩
    ·have:=newv _ hv;subst this
     obtain ⟨a,b,c,_⟩:=hf hl g hb;exact ⟨a,b,c⟩
    ·exact h.free j ej vj g hj' hl (oldv _ _ hlt hv) hb
   sep:=λj k ej ek vj vk g hj hk hlj hlk hvj hvk hbj hbk=>by
    rcases old j ej hj with ⟨rfl,rfl⟩ | ⟨hlt,hj'⟩
    ·rcases old k ek hk with ⟨rfl,rfl⟩ | ⟨hlk',hk'⟩
     ·rfl
     ·have:=newv _ hvj;subst this
      exact absurd hbk ((hf hlj g hbj).2.2.2 k ek vk hk' hlk (oldv _ _ hlk' hvk))
    ·rcases old k ek hk with ⟨rfl,rfl⟩ | ⟨hlk',hk'⟩
     ·have:=newv _ hvk;subst this
      exact absurd hbj ((hf hlk g hbk).2.2.2 j ej vj hj' hlj (oldv _ _ hlt hvj))
     ·exact h.sep j k ej ek vj vk g hj' hk' hlj hlk (oldv _ _ hlt hvj) (oldv _ _ hlk' hvk) hbj hbk}
theorem Inv.alloc {B:Base} {E:Env} {H:List Entry} (h:Inv B E H) (o:Obj) (v:Value) (e:Entry) (hv:Yh v=some E.w.heap.size)
  (he:Zpr ⟨E.S,E.w.alloc o,E.ids++[v]⟩ H.length e) (ht:e.thin=true:=by rfl):Inv B ⟨E.S,E.w.alloc o,E.ids++[v]⟩ (H++[e]):=by
 have hg:E.w.grownBy (E.w.alloc o) none:=World.grownBy_alloc E.w o none;refine (h.grow hg).push v e he (λ_ g hb=>?_);have hb:=(ZhI ht v g).1 hb;rw[hv] at hb;simp at hb;subst hb;refine ⟨λhS=>Nat.lt_irrefl _ (h.Slt _ hS),.inl h.keeps.size,by simp,λj ej vj hj hl hvj hb=>?_⟩;exact Nat.lt_irrefl _ (h.free j ej vj _ hj hl hvj hb).2.2
theorem Zmh {B:Base} {E:Env} {H:List Entry} (h:Inv B E H) (o:Obj) (v:Value):E.le ⟨E.S,E.w.alloc o,E.ids++[v]⟩ :=
 (Zce (World.grownBy_alloc E.w o none) h.Slt (λg e=>by simp at e)).trans (ZgZ _ v)
theorem ZwN (E:Env) (g:Nat):E.le ⟨λb=>E.S b\/b=g,E.w,E.ids⟩:=⟨λ_ h=>.inl h,λ_ _=>rfl,λ_ _ h=>h⟩
theorem Zro {E:Env} {et:TypeId} {t:Ty} {d:List t.den} {v:Value} {xs:List Value} (h2:E.w.Q8 0 et t.size v d.length xs) (h3:XZ (rep E.S E.w t) d xs)
  (S':Nat->Prop) (hS:∀ b,E.S b->S' b) (hb:∀ g,Yh v=some g->S' g):rep S' E.w (.sl t) d [v]:=by
 have h3':=QD (R':=rep S' E.w t) (λd vs=>Z7 hS (λ_ _=>rfl) t d vs) _ _ h3;rcases h2.2 with ⟨rfl,hn⟩ | ⟨g,cap,cur,o,rfl,_,hh,hc,_⟩
 ·exact ⟨none,0,by rw[hn],by omega,λ_=>rfl,.inl (List.eq_nil_of_length_eq_zero hn)⟩
 ·exact ⟨_,cap,rfl,hc,λe=>by simp at e,.inr ⟨_,xs,rfl,rfl,hb g rfl,h2.Zfp rfl,h3'⟩⟩
theorem Inv.Zis {B:Base} {E:Env} {H:List Entry} (h:Inv B E H) {i:Nat} {e0:Entry} {v:Value} (hi:H[i]?=some e0) (hl:e0.live=true) (hv:E.ids[i]?=some v) (e1:Entry) (hdead:e1.live=false)
  (he1:Zpr ⟨λb=>E.S b\/ZeY e0 v b,E.w,E.ids⟩ i e1):E.le ⟨λb=>E.S b\/ZeY e0 v b,E.w,E.ids⟩/\Inv B ⟨λb=>E.S b\/ZeY e0 v b,E.w,E.ids⟩ (H.set i e1):=by
 have hil:i<H.length:=(List.getElem?_eq_some_iff.1 hi).1;have hle:E.le ⟨λb=>E.S b\/ZeY e0 v b,E.w,E.ids⟩:=⟨λ_ h=>.inl h,λ_ _=>rfl,λ_ _ h=>h⟩;have old:∀ (j:Nat) (e:Entry),(H.set i e1)[j]?=some e->(j=i/\e=e1)\/(j≠i/\H[j]?=some e):=by
  intro j e hj;by_cases hji:j=i
  ·subst hji;rw[List.getElem?_set_self hil] at hj;exact .inl ⟨rfl,by simpa using hj.symm⟩
  ·rw[List.getElem?_set_ne (by omega)] at hj;exact .inr ⟨hji,hj⟩
 refine ⟨hle,?_⟩;exact
  {keeps:=h.keeps
   Slt:=λb hb=>hb.elim (h.Slt b) (λe=>(h.free i _ v b hi hl hv e).2.2)
   Sold:=λb hb hlt=>by
    rcases hb with hb | hb
    ·exact h.Sold b hb hlt
    ·rcases (h.free i _ v b hi hl hv hb).2.1 with hh | hh
     ·omega
     ·exact .inr hh
   len:=by simp[h.len]
   pin:=h.pin
   ent:=λj e hj=>by
    rcases old j e hj with ⟨rfl,rfl⟩ | ⟨hne,hj'⟩
    ·exact he1
    ·exact Zcc hle j e (λ_ _ _ _ _=>rfl) (h.ent j e hj')
   free:=λj e vj g hj hlj hvj hbj=>by
    rcases old j e hj with ⟨rfl,rfl⟩ | ⟨hne,hj'⟩
    ·rw[hdead] at hlj;cases hlj
    ·obtain ⟨a,b,c⟩:=h.free j e vj g hj' hlj hvj hbj
     exact ⟨λhS=>hS.elim a (λeq=>hne (h.sep j i e _ vj v g hj' hi hlj hl hvj hv hbj eq)),b,c⟩
   sep:=λj k ej ek vj vk g hj hk hlj hlk hvj hvk hbj hbk=>by
    rcases old j ej hj with ⟨rfl,rfl⟩ | ⟨hne,hj'⟩
    ·rw[hdead] at hlj;cases hlj
    ·rcases old k ek hk with ⟨rfl,rfl⟩ | ⟨hnk,hk'⟩
     ·rw[hdead] at hlk;cases hlk
     ·exact h.sep j k ej ek vj vk g hj' hk' hlj hlk hvj hvk hbj hbk}
theorem Inv.freeze {B:Base} {E:Env} {H:List Entry} (h:Inv B E H) {i:Nat} {et:TypeId} {t:Ty} {d:List t.den} {v:Value} (hi:H[i]?=some (.arr et t d)) (hv:E.ids[i]?=some v) :
  ∃ S',E.le ⟨S',E.w,E.ids⟩/\Inv B ⟨S',E.w,E.ids⟩ (H.set i (.frz t d))/\rep S' E.w (.sl t) d [v]/\(∀ b,S' b->E.S b\/Yh v=some b):=by
 obtain ⟨v',xs,h1,h2,h3⟩:=h.ent i _ hi;have:=h1.symm.trans hv;simp at this;subst this;have hr:rep (λb=>E.S b\/Yh v'=some b) E.w (.sl t) d [v']:=Zro h2 h3 _ (λ_ h=>.inl h) (λg hg=>.inr hg);obtain ⟨hle,hI⟩:=h.Zis hi rfl hv (.frz t d) rfl ⟨v',hv,hr⟩;exact ⟨_,hle,hI,hr,λb hb=>hb⟩
theorem Inv.ZvE {B:Base} {E:Env} {H:List Entry} (h:Inv B E H) {i:Nat} {et:TypeId} {e:Dp} {d:List e.ty.den} {fp:List Nat} {v:Value} (hi:H[i]?=some (.darr et e d fp)) (hv:E.ids[i]?=some v) :
  ∃ S',E.le ⟨S',E.w,E.ids⟩/\Inv B ⟨S',E.w,E.ids⟩ (H.set i (.frz e.ty d))/\rep S' E.w (.sl e.ty) d [v]/\(∀ b,S' b->E.S b\/b∈fp):=by
 obtain ⟨v',xs,fps,h1,h2,h3,e1,_⟩:=h.ent i _ hi;have:=h1.symm.trans hv;simp at this;subst this;have hr:rep (λb=>E.S b\/b∈fp) E.w (.sl e.ty) d [v'] :=
  Zed (S:=E.S) (λ_ h=>.inl h) (.ol et e) d [v'] fp (λg hg=>.inr hg) ⟨v',xs,fps,rfl,h2,h3,e1⟩
 obtain ⟨hle,hI⟩:=h.Zis hi rfl hv (.frz e.ty d) rfl ⟨v',hv,hr⟩;exact ⟨_,hle,hI,hr,λb hb=>hb⟩
theorem Inv.ZvF {B:Base} {E:Env} {H:List Entry} (h:Inv B E H) {i:Nat} {k t:Ty} {d:List (k.den×t.den)} {v:Value} (hi:H[i]?=some (.mpe k t d)) (hv:E.ids[i]?=some v) :
  ∃ S',E.le ⟨S',E.w,E.ids⟩/\Inv B ⟨S',E.w,E.ids⟩ (H.set i (.frm k t d))/\rep S' E.w (.mp k t) d [v]/\(∀ b,S' b->E.S b\/Yh v=some b):=by
 obtain ⟨b,es,clk,h1,h2,h3⟩:=h.ent i _ hi;have:=h1.symm.trans hv;simp at this;subst this;have hr:rep (λg=>E.S g\/Yh (.map (some b))=some g) E.w (.mp k t) d [.map (some b)] :=
  .inr ⟨b,es,clk,rfl,.inr rfl,h2,Zan (λd vs=>Z7 (λ_ h=>.inl h) (λ_ _=>rfl) k d vs) (λd vs=>Z7 (λ_ h=>.inl h) (λ_ _=>rfl) t d vs) _ _ h3⟩
 obtain ⟨hle,hI⟩:=h.Zis hi rfl hv (.frm k t d) rfl ⟨_,hv,hr⟩;exact ⟨_,hle,hI,hr,λb hb=>hb⟩
theorem Inv.ZwM {B:Base} {E:Env} {H:List Entry} (h:Inv B E H) {i:Nat} {c0 cells:List SV} (hi:H[i]?=some (.box c0)) {b:Nat} {cs:Array Value} {T:TypeId}
  (hv:E.ids[i]?=some (.pointer (some ⟨b,0,none⟩))) (hh:E.w.heap[b]?=some (.cells cs T (0,0))) (hcs:ZT E cells cs.toList) :
  ∃ S',E.le ⟨S',E.w,E.ids⟩/\Inv B ⟨S',E.w,E.ids⟩ (H.set i (.fbx cells))/\S' b/\ZT ⟨S',E.w,E.ids⟩ cells cs.toList:=by
 have hle0:E.le ⟨λg=>E.S g\/ZeY (.box c0) (.pointer (some ⟨b,0,none⟩)) g,E.w,E.ids⟩:=⟨λ_ h=>.inl h,λ_ _=>rfl,λ_ _ h=>h⟩;obtain ⟨hle,hI⟩:=h.Zis hi rfl hv (.fbx cells) rfl ⟨b,cs,T,hv,.inr rfl,hh,ZE hle0 _ _ hcs⟩;exact ⟨_,hle,hI,.inr rfl,ZE hle _ _ hcs⟩
end Go.Sx
