/-
  What a loop carries from round to round: values in slots and in variables, as data.
-/
import Derived.Test.YtgjjlgodlhhdoaaGreatDoorSxCall
namespace Go.Sx
set_option linter.unusedVariables false
set_option linter.unusedSimpArgs false
mutual
def ranged (n:Nat):SV->Prop
 | .ptr id _=>id<n
 | .own id=>id<n
 | .mown id=>id<n
 | .oep id _ _ _=>id<n
 | .fptr cs=>ZbH n cs
 | .agg cs=>ZbH n cs
 | .tup cs=>ZbH n cs
 | .fn _ cs=>ZbH n cs
 | _=>True
def ZbH (n:Nat):List SV->Prop
 | []=>True
 | c::cs=>ranged n c/\ZbH n cs
end
mutual
theorem Zqv {E:Env}:∀ (s:SV) (v:Value),den E s v->ranged E.ids.length s
 | .bot,_,_=>by simp only[ranged]
 | .int _ _,_,_=>by simp only[ranged]
 | .bool _,_,_=>by simp only[ranged]
 | .blit _,_,_=>by simp only[ranged]
 | .str _,_,_=>by simp only[ranged]
 | .sl _ _,_,_=>by simp only[ranged]
 | .nsl,_,_=>by simp only[ranged]
 | .nilp,_,_=>by simp only[ranged]
 | .nptr _ _,_,_=>by simp only[ranged]
 | .mp _ _ _,_,_=>by simp only[ranged]
 | .mown id,_,h=>by simp only[den] at h;simp only[ranged];exact (List.getElem?_eq_some_iff.1 h.1).1
 | .ptr id _,_,h=>by simp only[den] at h;obtain ⟨b,e,_⟩:=h;simp only[ranged];exact (List.getElem?_eq_some_iff.1 e).1
 | .own id,_,h=>by simp only[den] at h;simp only[ranged];exact (List.getElem?_eq_some_iff.1 h.1).1
 | .oep id _ _ _,_,h=>by simp only[den] at h;obtain ⟨b,bo,n,c,e,_⟩:=h;simp only[ranged];exact (List.getElem?_eq_some_iff.1 e).1
 | .fptr cs,_,h=>by simp only[den] at h;obtain ⟨p,vs,_,_,_,_,h⟩:=h;simp only[ranged];exact VT cs vs h
 | .agg cs,_,h=>by simp only[den] at h;obtain ⟨vs,_,h⟩:=h;simp only[ranged];exact VT cs vs h
 | .tup cs,_,h=>by simp only[den] at h;obtain ⟨vs,_,h⟩:=h;simp only[ranged];exact VT cs vs h
 | .fn _ cs,_,h=>by simp only[den] at h;obtain ⟨vs,_,h⟩:=h;simp only[ranged];exact VT cs vs h
theorem VT {E:Env}:∀ (cs:List SV) (vs:List Value),ZT E cs vs->ZbH E.ids.length cs
 | [],_,_=>by simp only[ZbH]
 | c::cs,v::vs,h=>by simp only[ZT] at h;simp only[ZbH];exact ⟨Zqv c v h.1,VT cs vs h.2⟩
 | _::_,[],h=>by simp[ZT] at h
end
mutual
theorem ZrJ {E:Env} {n:Nat}:∀ (s:SV) (v:Value),ranged n s->den E s v->den ⟨E.S,E.w,E.ids.take n⟩ s v
 | .bot,_,_,h=>h
 | .int _ _,_,_,h=>h
 | .bool _,_,_,h=>h
 | .blit _,_,_,h=>h
 | .str _,_,_,h=>h
 | .sl _ _,_,_,h=>h
 | .nsl,_,_,h=>h
 | .nilp,_,_,h=>h
 | .nptr _ _,_,_,h=>h
 | .mp _ _ _,_,_,h=>h
 | .mown id,_,hs,h=>by
  simp only[den] at h ⊢;simp only[ranged] at hs;exact ⟨by rw[List.getElem?_take,if_pos hs];exact h.1,h.2⟩
 | .ptr id _,_,hs,h=>by
  simp only[den] at h ⊢;simp only[ranged] at hs;obtain ⟨b,e,e2⟩:=h;exact ⟨b,by rw[List.getElem?_take,if_pos hs];exact e,e2⟩
 | .own id,_,hs,h=>by
  simp only[den] at h ⊢;simp only[ranged] at hs;exact ⟨by rw[List.getElem?_take,if_pos hs];exact h.1,h.2⟩
 | .oep id _ _ _,_,hs,h=>by
  simp only[den] at h ⊢;simp only[ranged] at hs;obtain ⟨b,bo,m,c,e,e2⟩:=h;exact ⟨b,bo,m,c,by rw[List.getElem?_take,if_pos hs];exact e,e2⟩
 | .fptr cs,_,hs,h=>by
  simp only[den] at h ⊢;simp only[ranged] at hs;obtain ⟨p,vs,a,b,c,d,h⟩:=h;exact ⟨p,vs,a,b,c,d,JZ cs vs hs h⟩
 | .agg cs,_,hs,h=>by simp only[den] at h ⊢;simp only[ranged] at hs;obtain ⟨vs,a,h⟩:=h;exact ⟨vs,a,JZ cs vs hs h⟩
 | .tup cs,_,hs,h=>by simp only[den] at h ⊢;simp only[ranged] at hs;obtain ⟨vs,a,h⟩:=h;exact ⟨vs,a,JZ cs vs hs h⟩
 | .fn _ cs,_,hs,h=>by simp only[den] at h ⊢;simp only[ranged] at hs;obtain ⟨vs,a,h⟩:=h;exact ⟨vs,a,JZ cs vs hs h⟩
theorem JZ {E:Env} {n:Nat}:∀ (cs:List SV) (vs:List Value),ZbH n cs->ZT E cs vs->ZT ⟨E.S,E.w,E.ids.take n⟩ cs vs
 | [],[],_,_=>trivial
 | c::cs,v::vs,hs,h=>by simp only[ZT] at h ⊢;simp only[ZbH] at hs;exact ⟨ZrJ c v hs.1 h.1,JZ cs vs hs.2 h.2⟩
 | _::_,[],_,h=>by simp[ZT] at h
 | [],_::_,_,h=>by simp[ZT] at h
end
def Zow (n:Nat):Entry->Prop
 | .box cells=>ZbH n cells
 | .fbx cells=>ZbH n cells
 | .hole _ _ _ _ cells _=>ZbH n cells
 | .hsp _ _ _ _ cells _=>ZbH n cells
 | _=>True
theorem Zov {E:Env} {i:Nat} {e:Entry} (h:Zpr E i e):Zow E.ids.length e:=by
 cases e with
 | box cells=>obtain ⟨b,cs,T,_,_,h⟩:=h;exact VT _ _ h
 | fbx cells=>obtain ⟨b,cs,T,_,_,_,h⟩:=h;exact VT _ _ h
 | hole et e d i cells fp=>obtain ⟨_,_,_,_,_,_,_,_,_,_,_,_,_,_,_,_,h,_⟩:=h;exact VT _ _ h
 | hsp et e d i cells fp=>obtain ⟨_,_,_,_,_,_,_,_,_,_,_,_,_,_,_,h,_⟩:=h;exact VT _ _ h
 | _=>trivial
theorem Inv.trunc {B:Base} {E:Env} {H:List Entry} (h:Inv B E H) (n:Nat) (hn:B.pin.length<=n) (hs:∀ e∈H.take n,Zow n e):Inv B ⟨E.S,E.w,E.ids.take n⟩ (H.take n):=by
 have hH:∀ (i:Nat) (e:Entry),(H.take n)[i]?=some e->i<n/\H[i]?=some e:=by
  intro i e hi;rw[List.getElem?_take] at hi;split at hi
  ·exact ⟨‹_›,hi⟩
  ·cases hi
 have hid:∀ (i:Nat) (v:Value),i<n->E.ids[i]?=some v->(E.ids.take n)[i]?=some v:=by
  intro i v hi hv;rw[List.getElem?_take,if_pos hi];exact hv
 have hid':∀ (i:Nat) (v:Value),(E.ids.take n)[i]?=some v->E.ids[i]?=some v:=by
  intro i v hv;rw[List.getElem?_take] at hv;split at hv
  ·exact hv
  ·cases hv
 exact
  {keeps:=h.keeps,Slt:=h.Slt,Sold:=h.Sold,len:=by simp[h.len]
   pin:=λi v hv=>hid i v (Nat.lt_of_lt_of_le (List.getElem?_eq_some_iff.1 hv).1 hn) (h.pin i v hv)
   ent:=λi e hi=>by
    have hmem:=List.mem_of_getElem? hi;obtain ⟨hlt,hi'⟩:=hH i e hi;have he:=h.ent i e hi';cases e with
    | gone=>trivial
    | box cells =>
     obtain ⟨b,cs,T,a1,a2,a3⟩:=he;exact ⟨b,cs,T,hid _ _ hlt a1,a2,JZ _ _ (hs _ hmem) a3⟩
    | arr et t d=>obtain ⟨v,xs,a1,a2,a3⟩:=he;exact ⟨v,xs,hid _ _ hlt a1,a2,a3⟩
    | frz t d=>obtain ⟨v,a1,a2⟩:=he;exact ⟨v,hid _ _ hlt a1,a2⟩
    | mpe k v d=>obtain ⟨b,es,clk,a1,a2⟩:=he;exact ⟨b,es,clk,hid _ _ hlt a1,a2⟩
    | frm k v d=>obtain ⟨u,a1,a2⟩:=he;exact ⟨u,hid _ _ hlt a1,a2⟩
    | fbx cells =>
     obtain ⟨b,cs,T,a1,aS,a2,a3⟩:=he;exact ⟨b,cs,T,hid _ _ hlt a1,aS,a2,JZ _ _ (hs _ hmem) a3⟩
    | darr et e d fp=>obtain ⟨v,xs,fps,a1,a2⟩:=he;exact ⟨v,xs,fps,hid _ _ hlt a1,a2⟩
    | hole et e d i cells fp =>
     obtain ⟨v,xs,x1,vx,x2,f1,f2,a1,a2,a3,a4,a5,a6,a7,a8,a9,a10,a11⟩:=he;exact ⟨v,xs,x1,vx,x2,f1,f2,hid _ _ hlt a1,a2,a3,a4,a5,a6,a7,a8,a9,JZ _ _ (hs _ hmem) a10,a11⟩
    | spl et e d n fp=>obtain ⟨v,a1,a2⟩:=he;exact ⟨v,hid _ _ hlt a1,a2⟩
    | hsp et e d i cells fp =>
     obtain ⟨v,xs,x1,vx,x2,f1,a1,a2,a3,a4,a5,a6,a7,a8,a9,a10,a11⟩:=he;exact ⟨v,xs,x1,vx,x2,f1,hid _ _ hlt a1,a2,a3,a4,a5,a6,a7,a8,a9,JZ _ _ (hs _ hmem) a10,a11⟩
   free:=λi e v g hi hl hv hb=>h.free i e v g (hH i e hi).2 hl (hid' _ _ hv) hb
   sep:=λi j ei ej vi vj g hi hj hli hlj hvi hvj=>h.sep i j ei ej vi vj g (hH i ei hi).2 (hH j ej hj).2 hli hlj (hid' _ _ hvi) (hid' _ _ hvj)}
inductive Loc
 | reg (r:Nat) (s:Sh)
 | cell (id off:Nat) (t:Ty)
 | cello (id off:Nat) (e:Dp)
 | ent (id:Nat) (et:TypeId) (e:Dp)
 | entm (id:Nat) (k v:Ty)
 | splt (id:Nat) (et:TypeId) (e:Dp)
def Loc.ZwJ (n:Nat):Loc->Prop
 | .ent id _ _=>id<n
 | .entm id _ _=>id<n
 | .splt id _ _=>id<n
 | _=>True
@[reducible] def Loc.den:Loc->Type
 | .reg _ s=>s.den
 | .cell _ _ t=>t.den
 | .cello _ _ e=>e.ty.den
 | .ent _ _ e=>List e.ty.den
 | .entm _ k v=>List (k.den×v.den)
 | .splt _ _ e=>List e.ty.den×Int
@[reducible] def Zol:List Loc->Type
 | []=>Unit
 | l::r=>l.den×Zol r
def Zfi:(ls:List Loc)->List SV->List Entry->(Zol ls->List Entry->Prop)->Prop
 | [],_,H,K=>K () H
 | .reg r (.dat t)::q,regs,H,K=>ZjA regs r λs=>Qu [s] H λcs H1=>Xi t cs λd rest=>match rest with
   | []=>Zfi q regs H1 λds H2=>K (d,ds) H2
   | _=>False
 | .reg r (.own e)::q,regs,H,K=>ZjA regs r λs=>if s.whole=true/\e.ty.agg=s.isAgg then closeAll e s.cells H λd H1=>Zfi q regs H1 λds H2=>K (d,ds) H2 else False
 | .reg _ (.io _)::_,_,_,_=>False
 | .reg _ (.back _)::_,_,_,_=>False
 | .cell id off t::q,regs,H,K=>ZeE H id λe=>match e with
   | .box cells=>ZjA cells off λs=>Qu [s] H λcs H1=>Xi t cs λd rest=>match rest with
    | []=>Zfi q regs H1 λds H2=>K (d,ds) H2
    | _=>False
   | _=>False
 | .cello id off e::q,regs,H,K=>ZeE H id λen=>match en with
   | .box cells=>ZjA cells off λs=>closeAll e [s] H λd H1=>Zfi q regs H1 λds H2=>K (d,ds) H2
   | _=>False
 | .ent id et e::q,regs,H,K=>closeAll (.ol et e) [.own id] H λd H1=>Zfi q regs H1 λds H2=>K (d,ds) H2
 | .entm id k v::q,regs,H,K=>closeAll (.mp k v) [.mown id] H λd H1=>Zfi q regs H1 λds H2=>K (d,ds) H2
 | .splt id et e::q,regs,H,K=>Zrv et e id H λd n H1=>Zfi q regs H1 λds H2=>K ((d,n),ds) H2
def ZxR (t:Ty) (d:t.den) (K:SV->Prop):Prop:=Qq t d λcs=>match cs with
 | [c]=>K c
 | _=>False
def Znb:(ls:List Loc)->Zol ls->List SV->List Entry->(List SV->List Entry->Prop)->Prop
 | [],_,regs,H,K=>K regs H
 | .reg r (.dat t)::q,v,regs,H,K=>splitK v λx v'=>ZxR t x λc=>Zq0 regs r c λregs'=>Znb q v' regs' H K
 | .reg r (.own e)::q,v,regs,H,K=>splitK v λx v'=>Qg e x H λcs H1=>Znk e.ty cs λs=>Zq0 regs r s λregs'=>Znb q v' regs' H1 K
 | .reg _ (.io _)::_,_,_,_,_=>False
 | .reg _ (.back _)::_,_,_,_,_=>False
 | .cell id off t::q,v,regs,H,K=>splitK v λx v'=>ZxR t x λc=>ZeE H id λe=>match e with
   | .box cells=>Zq0 cells off c λcells'=>Zfk H id (.box cells') λH'=>Znb q v' regs H' K
   | _=>False
 | .cello id off e::q,v,regs,H,K=>splitK v λx v'=>Qg e x H λcs H1=>match cs with
   | [s]=>ZeE H1 id λen=>match en with
    | .box cells=>Zq0 cells off s λcells'=>Zfk H1 id (.box cells') λH'=>Znb q v' regs H' K
    | _=>False
   | _=>False
 | .ent id et e::q,v,regs,H,K=>splitK v λx v'=>ZvV et e id x H λH'=>Znb q v' regs H' K
 | .entm id k u::q,v,regs,H,K=>splitK v λx v'=>Zfk H id (.mpe k u x) λH'=>Znb q v' regs H' K
 | .splt id et e::q,v,regs,H,K=>splitK v λx v'=>∀ fp:List Nat,Zfk H id (.spl et e x.1 x.2 fp) λH'=>Znb q v' regs H' K
def ZjE:List Loc->List Entry->(List Entry->Prop)->Prop
 | [],H,K=>K H
 | .cell id off _::q,H,K=>ZeE H id λe=>match e with
   | .box cells=>Zq0 cells off .bot λcells'=>Zfk H id (.box cells') λH'=>ZjE q H' K
   | _=>False
 | .cello id off _::q,H,K=>ZeE H id λe=>match e with
   | .box cells=>Zq0 cells off .bot λcells'=>Zfk H id (.box cells') λH'=>ZjE q H' K
   | _=>False
 | .reg _ _::q,H,K=>ZjE q H K
 | .ent _ _ _::q,H,K=>ZjE q H K
 | .entm _ _ _::q,H,K=>ZjE q H K
 | .splt _ _ _::q,H,K=>ZjE q H K
def ZqM:List Nat->List SV->(List SV->Prop)->Prop
 | [],regs,K=>K regs
 | r::q,regs,K=>Zq0 regs r .bot λregs'=>ZqM q regs' K
def Zgp:List Loc->List Nat->(List Nat->Prop)->Prop
 | [],W,K=>K W
 | .reg r _::q,W,K=>Zgp q W λW'=>K (r::W')
 | .cell _ _ _::q,W,K=>Zgp q W K
 | .cello _ _ _::q,W,K=>Zgp q W K
 | .ent _ _ _::q,W,K=>Zgp q W K
 | .entm _ _ _::q,W,K=>Zgp q W K
 | .splt _ _ _::q,W,K=>Zgp q W K
theorem ZmJ {E:Env}:∀ (W:List Nat) (regs:List SV) (vs:List Value),ZT E regs vs->∀ {K:List SV->Prop},ZqM W regs K->∃ regs',ZT E regs' vs/\K regs'
 | [],regs,vs,hd,K,hk=>⟨regs,hd,hk⟩
 | r::W,regs,vs,hd,K,hk=>by
  simp only[ZqM,Zc9] at hk;have hd':ZT E (regs.set r .bot) vs:=by
   by_cases hr:r<vs.length
   ·have:=Zdj _ _ hd r .bot vs[r] (by simp only[den])
    simpa using this
   ·have hl:=Yl _ _ hd
    rw[List.set_eq_of_length_le (by omega)];exact hd
  exact ZmJ W _ vs hd' hk
theorem Inv.weaken {B:Base} {E:Env} {H:List Entry} (h:Inv B E H) {id:Nat} {cells cells':List SV} (hi:H[id]?=some (.box cells)) (hc:∀ b cs T,E.ids[id]?=some (.pointer (some ⟨b,0,none⟩))->E.w.heap[b]?=some (.cells cs T (0,0))->ZT E cells cs.toList->ZT E cells' cs.toList) :
  Inv B E (H.set id (.box cells')):=by
 have hlt:id<H.length:=(List.getElem?_eq_some_iff.1 hi).1;have old:∀ (j:Nat) (e:Entry),(H.set id (.box cells'))[j]?=some e->∃ e0,H[j]?=some e0/\(e.live=true->e0.live=true)/\(j≠id->e=e0)/\(j=id->e=.box cells'/\e0=.box cells)/\(∀ v g,ZeY e v g->ZeY e0 v g):=by
  intro j e hj;by_cases hji:id=j
  ·subst hji
   rw[List.getElem?_set_self hlt] at hj;simp at hj;subst hj;exact ⟨_,hi,λ_=>rfl,λhne=>absurd rfl hne,λ_=>⟨rfl,rfl⟩,λv g h=>h⟩
  ·rw[List.getElem?_set_ne hji] at hj
   exact ⟨e,hj,λh=>h,λ_=>rfl,λe=>absurd e.symm hji,λv g h=>h⟩
 exact
  {keeps:=h.keeps,Slt:=h.Slt,Sold:=h.Sold,len:=by simp[h.len],pin:=h.pin
   ent:=λj e hj=>by
    obtain ⟨e0,hj0,_,hne,heq,_⟩:=old j e hj;by_cases hji:j=id
    ·obtain ⟨rfl,rfl⟩:=heq hji
     obtain ⟨b,cs,T,a1,a2,a3⟩:=h.ent j _ hj0;subst hji;exact ⟨b,cs,T,a1,a2,hc b cs T a1 a2 a3⟩
    ·rw[hne hji];exact h.ent j e0 hj0
   free:=λj e v g hj hl hv hb=>by
    obtain ⟨e0,hj0,hl0,_,_,hb0⟩:=old j e hj;exact h.free j e0 v g hj0 (hl0 hl) hv (hb0 v g hb)
   sep:=λi j ei ej vi vj g hi' hj' hli hlj hvi hvj hbi hbj=>by
    obtain ⟨e0,hi0,hl0,_,_,hb0⟩:=old i ei hi';obtain ⟨e1,hj1,hl1,_,_,hb1⟩:=old j ej hj';exact h.sep i j e0 e1 vi vj g hi0 hj1 (hl0 hli) (hl1 hlj) hvi hvj (hb0 vi g hbi) (hb1 vj g hbj)}
theorem ZiZ {E:Env} {cells:List SV} {vs:List Value} (hd:ZT E cells vs) (off:Nat):ZT E (cells.set off .bot) vs:=by
 by_cases hr:off<vs.length
 ·have:=Zdj _ _ hd off .bot vs[off] (by simp only[den])
  simpa using this
 ·have hl:=Yl _ _ hd
  rw[List.set_eq_of_length_le (by omega)];exact hd
def Q7 (B:Base) (E:Env) (H:List Entry) (vs:List Value):(ls:List Loc)->Zol ls->List Nat->Prop
 | [],_,gs=>gs=[]
 | .reg r (.dat t)::q,v,gs=>(∃ u,vs[r]?=some u/\rep E.S E.w t v.1 [u])/\Q7 B E H vs q v.2 gs
 | .reg r (.own e)::q,v,gs=>∃ u f g1,vs[r]?=some u/\Zs8 e.ty u/\Zfj E.S E.w e v.1 u.cells.toList f/\gs=f++g1/\Q7 B E H vs q v.2 g1
 | .reg _ (.io _)::_,_,_=>False
 | .reg _ (.back _)::_,_,_=>False
 | .cell id off t::q,v,gs=>(∃ b cs T cells u,H[id]?=some (.box cells)/\E.ids[id]?=some (.pointer (some ⟨b,0,none⟩))/\E.w.heap[b]?=some (.cells cs T (0,0))/\cs.toList[off]?=some u/\rep E.S E.w t v.1 [u])/\
   Q7 B E H vs q v.2 gs
 | .cello id off e::q,v,gs=>∃ b cs T cells u f g1,H[id]?=some (.box cells)/\E.ids[id]?=some (.pointer (some ⟨b,0,none⟩))/\E.w.heap[b]?=some (.cells cs T (0,0))/\cs.toList[off]?=some u/\
   Zfj E.S E.w e v.1 [u] f/\gs=f++g1/\Q7 B E H vs q v.2 g1
 | .ent id et e::q,v,gs=>∃ u f g1,id<H.length/\E.ids[id]?=some u/\(∀ c,H[id]?≠some (.box c))/\Zfj E.S E.w (.ol et e) v.1 [u] f/\gs=f++g1/\Q7 B E H vs q v.2 g1
 | .entm id k t::q,v,gs=>∃ u f g1,id<H.length/\E.ids[id]?=some u/\(∀ c,H[id]?≠some (.box c))/\Zfj E.S E.w (.mp k t) v.1 [u] f/\gs=f++g1/\Q7 B E H vs q v.2 g1
 | .splt id et e::q,v,gs=>∃ u f g1,id<H.length/\E.ids[id]?=some u/\(∀ c,H[id]?≠some (.box c))/\Zw2 E.S E.w et e v.1.1 v.1.2 u f/\gs=f++g1/\Q7 B E H vs q v.2 g1
def Boxed (H H':List Entry):Prop:=H'.length=H.length/\(∀ (i:Nat) (c:List SV),H[i]?=some (.box c)->∃ c',H'[i]?=some (.box c'))/\∀ (i:Nat) (c:List SV),H'[i]?=some (.box c)->∃ c',H[i]?=some (.box c')
theorem Boxed.refl (H:List Entry):Boxed H H:=⟨rfl,λ_ c h=>⟨c,h⟩,λ_ c h=>⟨c,h⟩⟩
theorem Boxed.trans {A C D:List Entry} (h:Boxed A C) (k:Boxed C D):Boxed A D :=
 ⟨k.1.trans h.1,λi c hi=>by obtain ⟨c',h'⟩:=h.2.1 i c hi;exact k.2.1 i c' h',λi c hi=>by obtain ⟨c',h'⟩:=k.2.2 i c hi;exact h.2.2 i c' h'⟩
theorem Boxed.frz {E E':Env} {H H':List Entry} (h:Frz E H E' H') (hb:∀ (i:Nat) (c:List SV),H[i]?=some (.box c)->H'[i]?=some (.box c)):Boxed H H' :=
 ⟨h.len,λi c hi=>⟨c,hb i c hi⟩,λi c hi=>⟨c,h.box i c hi⟩⟩
theorem Boxed.Zh6 {H:List Entry} {id:Nat} {c0 c1:List SV} (h:H[id]?=some (.box c0)):Boxed H (H.set id (.box c1)):=by
 have hlt:=(List.getElem?_eq_some_iff.1 h).1;refine ⟨by simp,λi c hi=>?_,λi c hi=>?_⟩
 ·by_cases hii:id=i
  ·subst hii;exact ⟨_,List.getElem?_set_self hlt⟩
  ·exact ⟨c,by rw[List.getElem?_set_ne hii];exact hi⟩
 ·by_cases hii:id=i
  ·subst hii;exact ⟨_,h⟩
  ·rw[List.getElem?_set_ne hii] at hi;exact ⟨c,hi⟩
theorem Boxed.Zv2 {H:List Entry} {id:Nat} {e1:Entry} (h:∀ c,H[id]?≠some (.box c)) (h1:∀ c,e1≠.box c):Boxed H (H.set id e1):=by
 refine ⟨by simp,λi c hi=>?_,λi c hi=>?_⟩
 ·by_cases hii:id=i
  ·subst hii;exact absurd hi (h c)
  ·exact ⟨c,by rw[List.getElem?_set_ne hii];exact hi⟩
 ·by_cases hii:id=i
  ·subst hii
   have hlt:id<H.length:=by have:=(List.getElem?_eq_some_iff.1 hi).1;simpa using this
   rw[List.getElem?_set_self hlt] at hi;simp at hi;exact absurd hi (h1 c)
  ·rw[List.getElem?_set_ne hii] at hi;exact ⟨c,hi⟩
theorem VB {B:Base} {E E':Env} {H H':List Entry} (hw:E'.w=E.w) (hS:∀ b,E.S b->E'.S b) (hids:∀ (i:Nat) (v:Value),i<H'.length->E.ids[i]?=some v->E'.ids[i]?=some v) {vs:List Value}
  (hbox:∀ (i:Nat) (c:List SV),H[i]?=some (.box c)->i<H'.length->∃ c',H'[i]?=some (.box c')) (hno:∀ (i:Nat) (c:List SV),H'[i]?=some (.box c)->∃ c',H[i]?=some (.box c')) :
  ∀ (ls:List Loc) (v:Zol ls) (gs:List Nat),(∀ id off t,Loc.cell id off t∈ls->id<H'.length)->(∀ id off e,Loc.cello id off e∈ls->id<H'.length)->(∀ l∈ls,l.ZwJ H'.length)->Q7 B E H vs ls v gs->Q7 B E' H' vs ls v gs
 | [],_,_,_,_,_,h=>h
 | .reg _ (.dat t)::q,v,gs,p1,p2,p3,⟨⟨u,a,b⟩,h⟩=>⟨⟨u,a,Z7 hS (λ_ _=>by rw[hw]) t _ _ b⟩,VB hw hS hids hbox hno q v.2 gs (λi o t h=>p1 i o t (by simp[h])) (λi o t h=>p2 i o t (by simp[h])) (λl h=>p3 l (by simp[h])) h⟩
 | .reg _ (.own e)::q,v,gs,p1,p2,p3,⟨u,f,g1,a,b,c,d,h⟩=>⟨u,f,g1,a,b,Ye hS (λ_ _=>by rw[hw]) e _ _ _ (λg _=>by rw[hw]) c,d,VB hw hS hids hbox hno q v.2 g1 (λi o t h=>p1 i o t (by simp[h])) (λi o t h=>p2 i o t (by simp[h])) (λl h=>p3 l (by simp[h])) h⟩
 | .cell id off t::q,v,gs,p1,p2,p3,⟨⟨b,cs,T,cells,u,a1,a2,a3,a4,a5⟩,h⟩=>by
  have hlt:=p1 id off t (by simp);obtain ⟨c',hc'⟩:=hbox id _ a1 hlt;exact ⟨⟨b,cs,T,c',u,hc',hids _ _ hlt a2,by rw[hw];exact a3,a4,Z7 hS (λ_ _=>by rw[hw]) t _ _ a5⟩,VB hw hS hids hbox hno q v.2 gs (λi o t h=>p1 i o t (by simp[h])) (λi o t h=>p2 i o t (by simp[h])) (λl h=>p3 l (by simp[h])) h⟩
 | .cello id off e::q,v,gs,p1,p2,p3,⟨b,cs,T,cells,u,f,g1,a1,a2,a3,a4,a5,a6,h⟩=>by
  have hlt:=p2 id off e (by simp);obtain ⟨c',hc'⟩:=hbox id _ a1 hlt;exact ⟨b,cs,T,c',u,f,g1,hc',hids _ _ hlt a2,by rw[hw];exact a3,a4,Ye hS (λ_ _=>by rw[hw]) e _ _ _ (λg _=>by rw[hw]) a5,a6,VB hw hS hids hbox hno q v.2 g1 (λi o t h=>p1 i o t (by simp[h])) (λi o t h=>p2 i o t (by simp[h])) (λl h=>p3 l (by simp[h])) h⟩
 | .ent id et e::q,v,gs,p1,p2,p3,⟨u,f,g1,a1,a2,a3,a4,a5,h⟩=>by
  have hlt:id<H'.length:=p3 _ List.mem_cons_self;exact ⟨u,f,g1,hlt,hids _ _ hlt a2,λc hc=>by obtain ⟨c',hc'⟩:=hno id c hc;exact a3 c' hc',Ye hS (λ_ _=>by rw[hw]) (.ol et e) _ _ _ (λg _=>by rw[hw]) a4,a5,VB hw hS hids hbox hno q v.2 g1 (λi o t h=>p1 i o t (by simp[h])) (λi o t h=>p2 i o t (by simp[h])) (λl h=>p3 l (by simp[h])) h⟩
 | .entm id k t::q,v,gs,p1,p2,p3,⟨u,f,g1,a1,a2,a3,a4,a5,h⟩=>by
  have hlt:id<H'.length:=p3 _ List.mem_cons_self;exact ⟨u,f,g1,hlt,hids _ _ hlt a2,λc hc=>by obtain ⟨c',hc'⟩:=hno id c hc;exact a3 c' hc',Ye hS (λ_ _=>by rw[hw]) (.mp k t) _ _ _ (λg _=>by rw[hw]) a4,a5,VB hw hS hids hbox hno q v.2 g1 (λi o t h=>p1 i o t (by simp[h])) (λi o t h=>p2 i o t (by simp[h])) (λl h=>p3 l (by simp[h])) h⟩
 | .splt id et e::q,v,gs,p1,p2,p3,⟨u,f,g1,a1,a2,a3,a4,a5,h⟩=>by
  have hlt:id<H'.length:=p3 _ List.mem_cons_self;exact ⟨u,f,g1,hlt,hids _ _ hlt a2,λc hc=>by obtain ⟨c',hc'⟩:=hno id c hc;exact a3 c' hc',ZkN hS (λ_ _=>by rw[hw]) (λg _=>by rw[hw]) a4,a5,VB hw hS hids hbox hno q v.2 g1 (λi o t h=>p1 i o t (by simp[h])) (λi o t h=>p2 i o t (by simp[h])) (λl h=>p3 l (by simp[h])) h⟩
def ZpM (n:Nat) (ls:List Loc):Prop:=(∀ id off t,Loc.cell id off t∈ls->id<n)/\(∀ id off e,Loc.cello id off e∈ls->id<n)/\∀ l∈ls,l.ZwJ n
theorem Zbl {B:Base} {E:Env} {H:List Entry} {vs:List Value}:∀ (ls:List Loc) (v:Zol ls) (gs:List Nat),Q7 B E H vs ls v gs->ZpM H.length ls
 | [],_,_,_=>⟨λ_ _ _ h=>by simp at h,λ_ _ _ h=>by simp at h,λ_ h=>by simp at h⟩
 | .reg _ (.dat t)::q,v,gs,⟨_,h⟩=>by
  obtain ⟨a,b,c⟩:=Zbl q v.2 gs h;exact ⟨λi o t h=>a i o t (by simpa using h),λi o t h=>b i o t (by simpa using h),λl h=>(List.mem_cons.1 h).elim (λe=>by subst e;trivial) (c l)⟩
 | .reg _ (.own e)::q,v,gs,⟨_,_,g1,_,_,_,_,h⟩=>by
  obtain ⟨a,b,c⟩:=Zbl q v.2 g1 h;exact ⟨λi o t h=>a i o t (by simpa using h),λi o t h=>b i o t (by simpa using h),λl h=>(List.mem_cons.1 h).elim (λe=>by subst e;trivial) (c l)⟩
 | .reg _ (.io _)::_,_,_,h=>by simp only[Q7] at h
 | .reg _ (.back _)::_,_,_,h=>by simp only[Q7] at h
 | .cell id off t::q,v,gs,⟨⟨_,_,_,_,_,a1,_⟩,h⟩=>by
  obtain ⟨a,b,c⟩:=Zbl q v.2 gs h;refine ⟨λi o t' h'=>?_,λi o t h=>b i o t (by simpa using h),λl h=>(List.mem_cons.1 h).elim (λe=>by subst e;trivial) (c l)⟩;rcases List.mem_cons.1 h' with e | h'
  ·injection e with e1 e2 e3;subst e1;exact (List.getElem?_eq_some_iff.1 a1).1
  ·exact a i o t' h'
 | .cello id off e::q,v,gs,⟨_,_,_,_,_,_,g1,a1,_,_,_,_,_,h⟩=>by
  obtain ⟨a,b,c⟩:=Zbl q v.2 g1 h;refine ⟨λi o t h=>a i o t (by simpa using h),λi o e' h'=>?_,λl h=>(List.mem_cons.1 h).elim (λe=>by subst e;trivial) (c l)⟩;rcases List.mem_cons.1 h' with e | h'
  ·injection e with e1 e2 e3;subst e1;exact (List.getElem?_eq_some_iff.1 a1).1
  ·exact b i o e' h'
 | .ent id et e::q,v,gs,⟨_,_,g1,a1,_,_,_,_,h⟩=>by
  obtain ⟨a,b,c⟩:=Zbl q v.2 g1 h;exact ⟨λi o t h=>a i o t (by simpa using h),λi o t h=>b i o t (by simpa using h),λl h=>(List.mem_cons.1 h).elim (λe=>by subst e;exact a1) (c l)⟩
 | .entm id k u::q,v,gs,⟨_,_,g1,a1,_,_,_,_,h⟩=>by
  obtain ⟨a,b,c⟩:=Zbl q v.2 g1 h;exact ⟨λi o t h=>a i o t (by simpa using h),λi o t h=>b i o t (by simpa using h),λl h=>(List.mem_cons.1 h).elim (λe=>by subst e;exact a1) (c l)⟩
 | .splt id et e::q,v,gs,⟨_,_,g1,a1,_,_,_,_,h⟩=>by
  obtain ⟨a,b,c⟩:=Zbl q v.2 g1 h;exact ⟨λi o t h=>a i o t (by simpa using h),λi o t h=>b i o t (by simpa using h),λl h=>(List.mem_cons.1 h).elim (λe=>by subst e;exact a1) (c l)⟩
theorem ZpM.tail {n:Nat} {l:Loc} {q:List Loc} (h:ZpM n (l::q)):ZpM n q :=
 ⟨λi o t hm=>h.1 i o t (by simp[hm]),λi o t hm=>h.2.1 i o t (by simp[hm]),λl hm=>h.2.2 l (by simp[hm])⟩
theorem JE {B:Base} {E E':Env} {H H':List Entry} (hw:E'.w=E.w) (hS:∀ b,E.S b->E'.S b) (hids:∀ (i:Nat) (v:Value),E.ids[i]?=some v->E'.ids[i]?=some v) (hb:Boxed H H') {vs:List Value}
  (ls:List Loc) (v:Zol ls) (gs:List Nat) (h:Q7 B E H vs ls v gs):Q7 B E' H' vs ls v gs:=by
 obtain ⟨p1,p2,p3⟩:=Zbl ls v gs h;rw[<-hb.1] at p1 p2 p3;exact VB hw hS (λi v _ hv=>hids i v hv) (λi c hi _=>hb.2.1 i c hi) hb.2.2 ls v gs p1 p2 p3 h
theorem Zi2 {B:Base} {E:Env} {H:List Entry} {vs:List Value} (E':Env) (l:List Entry) (hw:E'.w=E.w) (hS:E'.S=E.S) (hids:∀ (i:Nat) (v:Value),E.ids[i]?=some v->E'.ids[i]?=some v)
  (ls:List Loc) (v:Zol ls) (gs:List Nat) (h:Q7 B E H vs ls v gs):Q7 B E' (H++l) vs ls v gs:=by
 obtain ⟨p1,p2,p3⟩:=Zbl ls v gs h;have hle:H.length<=(H++l).length:=by simp
 have go:∀ (ls:List Loc) (v:Zol ls) (gs:List Nat),Q7 B E H vs ls v gs->Q7 B E' (H++l) vs ls v gs:=by
  intro ls;induction ls with
  | nil=>intro v gs h;exact h
  | cons x q ih =>
   intro v gs h
   match x,v,h with
   | .reg _ (.dat t),v,⟨⟨u,a,b⟩,h⟩=>exact ⟨⟨u,a,by rw[hS,hw];exact b⟩,ih v.2 gs h⟩
   | .reg _ (.own e),v,⟨u,f,g1,a,b,c,d,h⟩=>exact ⟨u,f,g1,a,b,by rw[hS,hw];exact c,d,ih v.2 g1 h⟩
   | .reg _ (.io _),v,h=>simp only[Q7] at h
   | .reg _ (.back _),v,h=>simp only[Q7] at h
   | .cell id off t,v,⟨⟨b,cs,T,cells,u,a1,a2,a3,a4,a5⟩,h⟩ =>
    exact ⟨⟨b,cs,T,cells,u,by rw[List.getElem?_append_left (List.getElem?_eq_some_iff.1 a1).1];exact a1,hids _ _ a2,by rw[hw];exact a3,a4,by rw[hS,hw];exact a5⟩,ih v.2 gs h⟩
   | .cello id off e,v,⟨b,cs,T,cells,u,f,g1,a1,a2,a3,a4,a5,a6,h⟩ =>
    exact ⟨b,cs,T,cells,u,f,g1,by rw[List.getElem?_append_left (List.getElem?_eq_some_iff.1 a1).1];exact a1,hids _ _ a2,by rw[hw];exact a3,a4,by rw[hS,hw];exact a5,a6,ih v.2 g1 h⟩
   | .ent id et e,v,⟨u,f,g1,a1,a2,a3,a4,a5,h⟩ =>
    exact ⟨u,f,g1,Nat.lt_of_lt_of_le a1 hle,hids _ _ a2,λc hc=>a3 c (by rwa [List.getElem?_append_left a1] at hc),by rw[hS,hw];exact a4,a5,ih v.2 g1 h⟩
   | .entm id k t,v,⟨u,f,g1,a1,a2,a3,a4,a5,h⟩ =>
    exact ⟨u,f,g1,Nat.lt_of_lt_of_le a1 hle,hids _ _ a2,λc hc=>a3 c (by rwa [List.getElem?_append_left a1] at hc),by rw[hS,hw];exact a4,a5,ih v.2 g1 h⟩
   | .splt id et e,v,⟨u,f,g1,a1,a2,a3,a4,a5,h⟩ =>
    exact ⟨u,f,g1,Nat.lt_of_lt_of_le a1 hle,hids _ _ a2,λc hc=>a3 c (by rwa [List.getElem?_append_left a1] at hc),by rw[hS,hw];exact a4,a5,ih v.2 g1 h⟩
 exact go ls v gs h
def Taken (B:Base) (ls:List Loc) (E:Env) (H:List Entry) (vs:List Value) (gs:List Nat) (K:Zol ls->List Entry->Prop):Prop :=
 ∃ E1 H1 v g1,E1.w=E.w/\E1.ids=E.ids/\Inv B E1 H1/\E.le E1/\K v H1/\Q7 B E1 H1 vs ls v g1/\Loose B E1 H1 (g1++gs)/\Boxed H H1
theorem Zd8 {B:Base}:∀ (ls:List Loc) {E:Env} {H:List Entry} (_:Inv B E H) {regs:List SV} {vs:List Value} (_:ZT E regs vs) (gs:List Nat) (_:Loose B E H gs) {K:Zol ls->List Entry->Prop} (_:Zfi ls regs H K),Taken B ls E H vs gs K
 | [],E,H,hI,regs,vs,hd,gs,hL,K,hk=>⟨E,H,(),[],rfl,rfl,hI,Env.le.refl E,hk,rfl,hL,Boxed.refl H⟩
 | .reg r (.dat t)::q,E,H,hI,regs,vs,hd,gs,hL,K,hk=>by
  simp only[Zfi] at hk;obtain ⟨s,u,hu,hs,hk,_⟩:=Zao _ _ hd hk;obtain ⟨E1,H1,cs,hf,hI1,hd1,hk,hb1⟩:=XI [s] hI (show ZT E [s] [u] from ⟨hs,trivial⟩) hk;obtain ⟨d,rest,v1,v2,e12,hr,hrest,hk⟩:=Y4 t cs _ _ hd1 hk;split at hk
  ·have hv2:v2=[]:=by cases v2 with
    | nil=>rfl
    | cons=>simp[ZT] at hrest
   subst hv2;rw[List.append_nil] at e12;obtain ⟨E2,H2,v,g1,hw2,hid2,hI2,hle2,hk,hl,hL2,hb2⟩:=Zd8 q hI1 (ZE hf.le _ _ hd) gs (hL.frz hf) hk;refine ⟨E2,H2,(d,v),g1,hw2.trans hf.w,hid2.trans hf.ids,hI2,hf.le.trans hle2,hk,⟨⟨u,hu,?_⟩,hl⟩,hL2,(Boxed.frz hf hb1).trans hb2⟩;rw[e12];exact Z7 hle2.S hle2.w t d v1 hr
  ·exact hk.elim
 | .reg r (.own e)::q,E,H,hI,regs,vs,hd,gs,hL,K,hk=>by
  simp only[Zfi] at hk;obtain ⟨s,u,hu,hs,hk,_⟩:=Zao _ _ hd hk;split at hk
  ·rename_i hc
   obtain ⟨hw,hag⟩:=hc;obtain ⟨E1,H1,d,f,hf,hI1,hr,hk,hL1,hT,hb1⟩:=Qi hI (Vt hs hw) hL hk;obtain ⟨E2,H2,v,g1,hw2,hid2,hI2,hle2,hk,hl,hL2,hb2⟩:=Zd8 q hI1 (ZE hf.le _ _ hd) (f++gs) hL1 hk;refine ⟨E2,H2,(d,v),f++g1,hw2.trans hf.w,hid2.trans hf.ids,hI2,hf.le.trans hle2,hk,⟨u,f,g1,hu,Zmt hs hw hag,?_,rfl,hl⟩,hL2.perm ?_,(Boxed.frz hf hb1).trans hb2⟩
   ·exact Ye hle2.S hle2.w e _ _ _ (λg _=>by rw[hw2]) hr
   ·rw[<-List.append_assoc];exact List.perm_append_comm.append_right gs
  ·exact hk.elim
 | .reg _ (.io _)::_,_,_,_,_,_,_,_,_,_,hk=>by simp only[Zfi] at hk
 | .reg _ (.back _)::_,_,_,_,_,_,_,_,_,_,hk=>by simp only[Zfi] at hk
 | .cell id off t::q,E,H,hI,regs,vs,hd,gs,hL,K,hk=>by
  simp only[Zfi] at hk;obtain ⟨e,he,hk⟩:=Yy H hk;split at hk
  ·rename_i cells
   obtain ⟨b,cs0,T,e1,e2,e3⟩:=hI.ent id _ he;obtain ⟨s,u,hu,hs,hk,_⟩:=Zao _ _ e3 hk;obtain ⟨E1,H1,cs,hf,hI1,hd1,hk,hb1⟩:=XI [s] hI (show ZT E [s] [u] from ⟨hs,trivial⟩) hk;obtain ⟨d,rest,v1,v2,e12,hr,hrest,hk⟩:=Y4 t cs _ _ hd1 hk;split at hk
   ·have hv2:v2=[]:=by cases v2 with
     | nil=>rfl
     | cons=>simp[ZT] at hrest
    subst hv2;rw[List.append_nil] at e12;obtain ⟨E2,H2,v,g1,hw2,hid2,hI2,hle2,hk,hl,hL2,hb2⟩:=Zd8 q hI1 (ZE hf.le _ _ hd) gs (hL.frz hf) hk;obtain ⟨c',hc'⟩:=hb2.2.1 id _ (hb1 _ _ he);refine ⟨E2,H2,(d,v),g1,hw2.trans hf.w,hid2.trans hf.ids,hI2,hf.le.trans hle2,hk,⟨⟨b,cs0,T,c',u,hc',by rw[hid2,hf.ids];exact e1,by rw[hw2,hf.w];exact e2,hu,?_⟩,hl⟩,hL2,(Boxed.frz hf hb1).trans hb2⟩;rw[e12];exact Z7 hle2.S hle2.w t d v1 hr
   ·exact hk.elim
  ·exact hk.elim
 | .cello id off e::q,E,H,hI,regs,vs,hd,gs,hL,K,hk=>by
  simp only[Zfi] at hk;obtain ⟨en,he,hk⟩:=Yy H hk;split at hk
  ·rename_i cells
   obtain ⟨b,cs0,T,e1,e2,e3⟩:=hI.ent id _ he;obtain ⟨s,u,hu,hs,hk,_⟩:=Zao _ _ e3 hk;obtain ⟨E1,H1,d,f,hf,hI1,hr,hk,hL1,hT,hb1⟩:=Qi hI (show ZT E [s] [u] from ⟨hs,trivial⟩) hL hk;obtain ⟨E2,H2,v,g1,hw2,hid2,hI2,hle2,hk,hl,hL2,hb2⟩:=Zd8 q hI1 (ZE hf.le _ _ hd) (f++gs) hL1 hk;obtain ⟨c',hc'⟩:=hb2.2.1 id _ (hb1 _ _ he);refine ⟨E2,H2,(d,v),f++g1,hw2.trans hf.w,hid2.trans hf.ids,hI2,hf.le.trans hle2,hk,⟨b,cs0,T,c',u,f,g1,hc',by rw[hid2,hf.ids];exact e1,by rw[hw2,hf.w];exact e2,hu,?_,rfl,hl⟩,hL2.perm ?_,(Boxed.frz hf hb1).trans hb2⟩
   ·exact Ye hle2.S hle2.w e _ _ _ (λg _=>by rw[hw2]) hr
   ·rw[<-List.append_assoc];exact List.perm_append_comm.append_right gs
  ·exact hk.elim
 | .ent id et e::q,E,H,hI,regs,vs,hd,gs,hL,K,hk=>by
  simp only[Zfi] at hk;have hk0:=hk;unfold closeAll at hk0;simp only[QU] at hk0;obtain ⟨en,he,hk0⟩:=Yy H hk0;have hlt:=(List.getElem?_eq_some_iff.1 he).1;obtain ⟨u,hu⟩:∃ u,E.ids[id]?=some u:=⟨_,List.getElem?_eq_getElem (show id<E.ids.length by rw[hI.len];exact hlt)⟩;have hnb:∀ c,H[id]?≠some (.box c):=by
   intro c hc;have:=he.symm.trans hc;simp at this;subst this;exact hk0.elim
  have hs:den E (.own id) u:=by
   simp only[den];refine ⟨hu,?_⟩;split at hk0
   ·obtain ⟨v',xs,a1,a2,_⟩:=hI.ent id _ he
    have:=hu.symm.trans a1;simp at this;subst this;rcases a2.2 with ⟨rfl,_⟩ | ⟨g,cap,cur,o,rfl,_⟩<;>exact ⟨_,_,_,rfl⟩
   ·obtain ⟨v',xs,fps,a1,a2,_⟩:=hI.ent id _ he
    have:=hu.symm.trans a1;simp at this;subst this;rcases a2.2 with ⟨rfl,_⟩ | ⟨g,cap,cur,o,rfl,_⟩<;>exact ⟨_,_,_,rfl⟩
   ·obtain ⟨v',xs,x1,vx,x2,f1,f2,a1,a2,_⟩:=hI.ent id _ he
    have:=hu.symm.trans a1;simp at this;subst this;rcases a2.2 with ⟨rfl,_⟩ | ⟨g,cap,cur,o,rfl,_⟩<;>exact ⟨_,_,_,rfl⟩
   ·obtain ⟨v',a1,⟨xs,x1,x2,f1,a2,_⟩,_⟩:=hI.ent id _ he
    have:=hu.symm.trans a1;simp at this;subst this;rcases a2.2 with ⟨rfl,_⟩ | ⟨g,cap,cur,o,rfl,_⟩<;>exact ⟨_,_,_,rfl⟩
   ·exact hk0.elim
  obtain ⟨E1,H1,d,f,hf,hI1,hr,hk,hL1,hT,hb1⟩:=Qi hI (show ZT E [.own id] [u] from ⟨hs,trivial⟩) hL hk;obtain ⟨E2,H2,v,g1,hw2,hid2,hI2,hle2,hk,hl,hL2,hb2⟩:=Zd8 q hI1 (ZE hf.le _ _ hd) (f++gs) hL1 hk;have hbb:=(Boxed.frz hf hb1).trans hb2;refine ⟨E2,H2,(d,v),f++g1,hw2.trans hf.w,hid2.trans hf.ids,hI2,hf.le.trans hle2,hk,⟨u,f,g1,by rw[hbb.1];exact hlt,by rw[hid2,hf.ids];exact hu,λc hc=>?_,?_,rfl,hl⟩,hL2.perm ?_,hbb⟩
  ·obtain ⟨c',hc'⟩:=hbb.2.2 id c hc;exact hnb c' hc'
  ·exact Ye hle2.S hle2.w (.ol et e) _ _ _ (λg _=>by rw[hw2]) hr
  ·rw[<-List.append_assoc];exact List.perm_append_comm.append_right gs
 | .entm id k t::q,E,H,hI,regs,vs,hd,gs,hL,K,hk=>by
  simp only[Zfi] at hk;have hk0:=hk;unfold closeAll at hk0;simp only[QU] at hk0;obtain ⟨en,he,hk0⟩:=Yy H hk0;have hlt:=(List.getElem?_eq_some_iff.1 he).1;obtain ⟨u,hu⟩:∃ u,E.ids[id]?=some u:=⟨_,List.getElem?_eq_getElem (show id<E.ids.length by rw[hI.len];exact hlt)⟩;have hnb:∀ c,H[id]?≠some (.box c):=by
   intro c hc;have:=he.symm.trans hc;simp at this;subst this;exact hk0.elim
  have hs:den E (.mown id) u:=by
   simp only[den];refine ⟨hu,?_⟩;split at hk0
   ·obtain ⟨b,es,clk,a1,_⟩:=hI.ent id _ he
    have:=hu.symm.trans a1;simp at this;subst this;exact ⟨_,rfl⟩
   ·exact hk0.elim
  obtain ⟨E1,H1,d,f,hf,hI1,hr,hk,hL1,hT,hb1⟩:=Qi hI (show ZT E [.mown id] [u] from ⟨hs,trivial⟩) hL hk;obtain ⟨E2,H2,v,g1,hw2,hid2,hI2,hle2,hk,hl,hL2,hb2⟩:=Zd8 q hI1 (ZE hf.le _ _ hd) (f++gs) hL1 hk;have hbb:=(Boxed.frz hf hb1).trans hb2;refine ⟨E2,H2,(d,v),f++g1,hw2.trans hf.w,hid2.trans hf.ids,hI2,hf.le.trans hle2,hk,⟨u,f,g1,by rw[hbb.1];exact hlt,by rw[hid2,hf.ids];exact hu,λc hc=>?_,?_,rfl,hl⟩,hL2.perm ?_,hbb⟩
  ·obtain ⟨c',hc'⟩:=hbb.2.2 id c hc;exact hnb c' hc'
  ·exact Ye hle2.S hle2.w (.mp k t) _ _ _ (λg _=>by rw[hw2]) hr
  ·rw[<-List.append_assoc];exact List.perm_append_comm.append_right gs
 | .splt id et e::q,E,H,hI,regs,vs,hd,gs,hL,K,hk=>by
  simp only[Zfi] at hk;obtain ⟨E1,H1,d,n,u,f,hf,hI1,hu,hnb,hr,hk,hL1,hb1⟩:=Zrw hI hL hk;obtain ⟨E2,H2,v,g1,hw2,hid2,hI2,hle2,hk,hl,hL2,hb2⟩:=Zd8 q hI1 (ZE hf.le _ _ hd) (f++gs) hL1 hk;have hbb:=(Boxed.frz hf hb1).trans hb2;have hlt:id<H2.length:=by
   have:=(List.getElem?_eq_some_iff.1 hu).1;rw[hb2.1,<-hI1.len];exact this
  refine ⟨E2,H2,((d,n),v),f++g1,hw2.trans hf.w,hid2.trans hf.ids,hI2,hf.le.trans hle2,hk,⟨u,f,g1,hlt,by rw[hid2];exact hu,λc hc=>?_,?_,rfl,hl⟩,hL2.perm ?_,hbb⟩
  ·obtain ⟨c',hc'⟩:=hbb.2.2 id c hc;exact hnb c' hc'
  ·exact ZkN hle2.S hle2.w (λg _=>by rw[hw2]) hr
  ·rw[<-List.append_assoc];exact List.perm_append_comm.append_right gs
theorem ZjU {vs:List Value} {r:Nat} {u:Value} (hu:vs[r]?=some u):vs.set r u=vs:=by
 apply List.ext_getElem?;intro j;by_cases hj:r=j
 ·subst hj
  have:=(List.getElem?_eq_some_iff.1 hu).1;rw[List.getElem?_set_self this,hu]
 ·rw[List.getElem?_set_ne hj]
theorem Loose.Zh6 {B:Base} {E:Env} {H:List Entry} {gs:List Nat} (hL:Loose B E H gs) {id:Nat} {c0 c1:List SV} (he:H[id]?=some (.box c0)):Loose B E (H.set id (.box c1)) gs:=by
 have hlt:=(List.getElem?_eq_some_iff.1 he).1;refine ⟨hL.nodup,hL.free,λg hg j ej vj hj hlv hv hb=>?_⟩;by_cases hji:id=j
 ·subst hji;rw[List.getElem?_set_self hlt] at hj;simp at hj;subst hj;exact hL.apart g hg id _ vj he rfl hv hb
 ·rw[List.getElem?_set_ne hji] at hj;exact hL.apart g hg j ej vj hj hlv hv hb
theorem ZfD {B:Base}:∀ (ls:List Loc) (v:Zol ls) {E:Env} {H:List Entry} (_:Inv B E H) {regs:List SV} {vs:List Value} (_:ZT E regs vs) (g1:List Nat) (_:Q7 B E H vs ls v g1) (_:Loose B E H g1)
  {K:List SV->List Entry->Prop} (_:Znb ls v regs H K),∃ E' H' regs',E'.w=E.w/\Inv B E' H'/\ZT E' regs' vs/\K regs' H'
 | [],v,E,H,hI,regs,vs,hd,g1,hl,hL,K,hk=>⟨E,H,regs,rfl,hI,hd,hk⟩
 | .reg r (.dat t)::q,v,E,H,hI,regs,vs,hd,g1,⟨⟨u,hu,hr⟩,hl⟩,hL,K,hk=>by
  simp only[Znb,QK,ZxR,Xr] at hk;have hdc:=Y0 t v.1 [u] hr;split at hk
  ·rename_i c hc
   rw[hc] at hdc;simp only[ZT] at hdc;rw[Zc9] at hk;have hd':=Zdj _ _ hd r c u hdc.1;rw[ZjU hu] at hd';exact ZfD q v.2 hI hd' g1 hl hL hk
  ·exact hk.elim
 | .reg r (.own e)::q,v,E,H,hI,regs,vs,hd,g1,⟨u,f,g2,hu,hform,hr,hg,hl⟩,hL,K,hk=>by
  simp only[Znb,QK] at hk;subst hg;obtain ⟨E1,H1,cs,hw1,hS1,hI1,hle1,hd1,hk,hL1,l,hl1⟩:=QS e v.1 hI hr hL hk;obtain ⟨s,hs,hk⟩:=Zko hform hd1 hk;rw[Zc9] at hk;have hd':=Zdj _ _ (ZE hle1 _ _ hd) r s u hs;rw[ZjU hu] at hd';subst hl1;obtain ⟨E2,H2,regs',hw2,hI2,hd2,hk⟩:=ZfD q v.2 hI1 hd' g2 (Zi2 E1 l hw1 hS1 hle1.ids q v.2 g2 hl) hL1 hk;exact ⟨E2,H2,regs',hw2.trans hw1,hI2,hd2,hk⟩
 | .reg _ (.io _)::_,_,_,_,_,_,_,_,_,_,_,_,hk=>by simp only[Znb] at hk
 | .reg _ (.back _)::_,_,_,_,_,_,_,_,_,_,_,_,hk=>by simp only[Znb] at hk
 | .cell id off t::q,v,E,H,hI,regs,vs,hd,g1,⟨⟨b,cs,T,cells0,u,a1,a2,a3,a4,a5⟩,hl⟩,hL,K,hk=>by
  simp only[Znb,QK,ZxR,Xr] at hk;have hdc:=Y0 t v.1 [u] a5;split at hk
  ·rename_i c hc
   rw[hc] at hdc;simp only[ZT] at hdc;obtain ⟨e,he,hk⟩:=Yy H hk;split at hk
   ·rename_i cells
    rw[Zc9,YU] at hk;have hI1:=hI.weaken (cells':=cells.set off c) he (λb' cs' T' h1 h2 h3=>by
     have:=a2.symm.trans h1;simp at this;subst this;have:=a3.symm.trans h2;simp at this;obtain ⟨rfl,_⟩:=this;have hset:=Zdj _ _ h3 off c u hdc.1
     rwa [ZjU a4] at hset)
    exact ZfD q v.2 hI1 hd g1 (JE rfl (λ_ h=>h) (λ_ _ h=>h) (Boxed.Zh6 he) q v.2 g1 hl) (hL.Zh6 he) hk
   ·exact hk.elim
  ·exact hk.elim
 | .cello id off e::q,v,E,H,hI,regs,vs,hd,g1,⟨b,cs,T,cells0,u,f,g2,a1,a2,a3,a4,hr,hg,hl⟩,hL,K,hk=>by
  simp only[Znb,QK] at hk;subst hg;obtain ⟨E1,H1,cs1,hw1,hS1,hI1,hle1,hd1,hk,hL1,l,hl1⟩:=QS e v.1 hI hr hL hk;subst hl1;split at hk
  ·rename_i s
   simp only[ZT] at hd1;obtain ⟨en,he,hk⟩:=Yy _ hk;split at hk
   ·rename_i cells
    rw[Zc9,YU] at hk;have a2':=hle1.ids _ _ a2;have hI2:=hI1.weaken (cells':=cells.set off s) he (λb' cs' T' h1 h2 h3=>by
     have:=a2'.symm.trans h1;simp at this;subst this;rw[hw1] at h2;have:=a3.symm.trans h2;simp at this;obtain ⟨rfl,_⟩:=this;have hset:=Zdj _ _ h3 off s u hd1.1
     rwa [ZjU a4] at hset)
    obtain ⟨E2,H2,regs',hw2,hI3,hd2,hk⟩:=ZfD q v.2 hI2 (ZE hle1 _ _ hd) g2 (JE rfl (λ_ h=>h) (λ_ _ h=>h) (Boxed.Zh6 he) q v.2 g2 (Zi2 E1 l hw1 hS1 hle1.ids q v.2 g2 hl)) (hL1.Zh6 he) hk;exact ⟨E2,H2,regs',hw2.trans hw1,hI3,hd2,hk⟩
   ·exact hk.elim
  ·exact hk.elim
 | .ent id et e::q,v,E,H,hI,regs,vs,hd,g1,⟨u,f,g2,a1,a2,a3,hr,hg,hl⟩,hL,K,hk=>by
  simp only[Znb,QK] at hk;subst hg;obtain ⟨e1,hI1,hL1,hk,hnb⟩:=Zsw e hI a1 a2 hr hL hk;exact ZfD q v.2 hI1 hd g2 (JE rfl (λ_ h=>h) (λ_ _ h=>h) (Boxed.Zv2 a3 hnb) q v.2 g2 hl) hL1 hk
 | .entm id k t::q,v,E,H,hI,regs,vs,hd,g1,⟨u,f,g2,a1,a2,a3,⟨b,es,clk,e1,e2,hh,hr⟩,hg,hl⟩,hL,K,hk=>by
  simp only[Znb,QK,YU] at hk;subst hg;simp at e1;subst e1;obtain ⟨hI1,hL1⟩:=hL.put hI a1 a2 (.mpe k t v.1) (λ_ g hg=>by
   have hg:Yh (.map (some b))=some g:=hg;simp[Yh] at hg;rw[e2];simp[hg]) ⟨b,es,clk,a2,hh,hr⟩
  exact ZfD q v.2 hI1 hd g2 (JE rfl (λ_ h=>h) (λ_ _ h=>h) (Boxed.Zv2 a3 (λc h=>by cases h)) q v.2 g2 hl) hL1 hk
 | .splt id et e::q,v,E,H,hI,regs,vs,hd,g1,⟨u,f,g2,a1,a2,a3,hr,hg,hl⟩,hL,K,hk=>by
  simp only[Znb,QK] at hk;have hk:=hk f;rw[YU] at hk;subst hg;obtain ⟨hI1,hL1⟩:=hL.put hI a1 a2 (.spl et e v.1.1 v.1.2 f) (λ_ g hg=>hg) ⟨u,a2,hr,(List.nodup_append.1 hL.nodup).1⟩;exact ZfD q v.2 hI1 hd g2 (JE rfl (λ_ h=>h) (λ_ _ h=>h) (Boxed.Zv2 a3 (λc h=>by cases h)) q v.2 g2 hl) hL1 hk
end Go.Sx
