/-
  The call's own things put in another order: variables that a region takes come last, in the order of the slots that hold them.
-/
import Derived.Test.YtgjjlgodlhhdoaaGreatDoorSxBox
namespace Go.Sx
set_option linter.unusedVariables false
set_option linter.unusedSimpArgs false
def ZnR (m:List Nat) (i:Nat):Nat:=(m[i]?).getD i
mutual
def Zzq (m:List Nat):SV->SV
 | .ptr id off=>.ptr (ZnR m id) off
 | .own id=>.own (ZnR m id)
 | .oep id sz i off=>.oep (ZnR m id) sz i off
 | .mown id=>.mown (ZnR m id)
 | .fptr cs=>.fptr (ZsC m cs)
 | .agg cs=>.agg (ZsC m cs)
 | .tup cs=>.tup (ZsC m cs)
 | .fn f cs=>.fn f (ZsC m cs)
 | .bot=>.bot
 | .int k n=>.int k n
 | .bool b=>.bool b
 | .blit b=>.blit b
 | .str s=>.str s
 | .sl t d=>.sl t d
 | .nsl=>.nsl
 | .nilp=>.nilp
 | .nptr t d=>.nptr t d
 | .mp k v d=>.mp k v d
def ZsC (m:List Nat):List SV->List SV
 | []=>[]
 | c::cs=>Zzq m c::ZsC m cs
end
def Zw0 (m:List Nat):Entry->Entry
 | .box cells=>.box (ZsC m cells)
 | .fbx cells=>.fbx (ZsC m cells)
 | .hole et e d i cells fp=>.hole et e d i (ZsC m cells) fp
 | .hsp et e d i cells fp=>.hsp et e d i (ZsC m cells) fp
 | e=>e
section
variable {E:Env} {ids':List Value} {m:List Nat}
mutual
theorem ZvA (h:∀ i v,E.ids[i]?=some v->ids'[ZnR m i]?=some v):∀ (s:SV) (v:Value),den E s v->den ⟨E.S,E.w,ids'⟩ (Zzq m s) v
 | .bot,_,_=>trivial
 | .int _ _,_,e=>e
 | .bool _,_,e=>e
 | .blit _,_,e=>e
 | .str _,_,e=>e
 | .sl t d,v,e=>e
 | .nsl,_,e=>e
 | .ptr _ _,_,⟨b,e1,e2⟩=>⟨b,h _ _ e1,e2⟩
 | .own _,_,⟨e1,e2⟩=>⟨h _ _ e1,e2⟩
 | .oep _ _ _ _,_,⟨b,bo,n,c,e1,e2⟩=>⟨b,bo,n,c,h _ _ e1,e2⟩
 | .fptr cs,_,⟨p,vs,e1,e2,e3,e4,e5⟩=>⟨p,vs,e1,e2,e3,e4,Zdi h cs vs e5⟩
 | .agg cs,_,⟨vs,e1,e2⟩=>⟨vs,e1,Zdi h cs vs e2⟩
 | .tup cs,_,⟨vs,e1,e2⟩=>⟨vs,e1,Zdi h cs vs e2⟩
 | .fn _ cs,_,⟨vs,e1,e2⟩=>⟨vs,e1,Zdi h cs vs e2⟩
 | .nilp,_,e=>e
 | .nptr t d,v,e=>e
 | .mown _,_,⟨e1,e2⟩=>⟨h _ _ e1,e2⟩
 | .mp k u d,v,e=>e
theorem Zdi (h:∀ i v,E.ids[i]?=some v->ids'[ZnR m i]?=some v):∀ (cs:List SV) (vs:List Value),ZT E cs vs->ZT ⟨E.S,E.w,ids'⟩ (ZsC m cs) vs
 | [],[],_=>trivial
 | c::cs,v::vs,⟨e1,e2⟩=>⟨ZvA h c v e1,Zdi h cs vs e2⟩
 | [],_::_,e=>e
 | _::_,[],e=>e
end
theorem ZtF (h:∀ i v,E.ids[i]?=some v->ids'[ZnR m i]?=some v) (i:Nat):∀ e:Entry,Zpr E i e->Zpr ⟨E.S,E.w,ids'⟩ (ZnR m i) (Zw0 m e)
 | .gone,_=>trivial
 | .box cells,⟨b,cs,T,e1,e2,e3⟩=>⟨b,cs,T,h _ _ e1,e2,Zdi h _ _ e3⟩
 | .arr et t d,⟨v,xs,e1,r⟩=>⟨v,xs,h _ _ e1,r⟩
 | .frz t d,⟨v,e1,r⟩=>⟨v,h _ _ e1,r⟩
 | .fbx cells,⟨b,cs,T,e1,e2,e3,e4⟩=>⟨b,cs,T,h _ _ e1,e2,e3,Zdi h _ _ e4⟩
 | .darr et e d fp,⟨v,xs,fps,e1,r⟩=>⟨v,xs,fps,h _ _ e1,r⟩
 | .hole et e d i cells fp,⟨v,xs,x1,vx,x2,f1,f2,e1,a1,a2,a3,a4,a5,a6,a7,a8,a9,r⟩=>⟨v,xs,x1,vx,x2,f1,f2,h _ _ e1,a1,a2,a3,a4,a5,a6,a7,a8,Zdi h _ _ a9,r⟩
 | .spl et e d n fp,⟨v,e1,r⟩=>⟨v,h _ _ e1,r⟩
 | .hsp et e d i cells fp,⟨v,xs,x1,vx,x2,f1,e1,a1,a2,a3,a4,a5,a6,a7,a8,a9,r⟩=>⟨v,xs,x1,vx,x2,f1,h _ _ e1,a1,a2,a3,a4,a5,a6,a7,a8,Zdi h _ _ a9,r⟩
 | .mpe k v d,⟨b,es,clk,e1,r⟩=>⟨b,es,clk,h _ _ e1,r⟩
 | .frm k v d,⟨u,e1,r⟩=>⟨u,h _ _ e1,r⟩
end
theorem ZnQ (m:List Nat) (e:Entry):(Zw0 m e).live=e.live:=by cases e<;>rfl
theorem ZmQ (m:List Nat) (e:Entry) (v:Value) (g:Nat):ZeY (Zw0 m e) v g<->ZeY e v g:=by cases e<;>exact Iff.rfl
def ZqW:List Nat->Nat->Nat->(Nat->Prop)->Prop
 | [],_,i,K=>K i
 | a::_,0,_,K=>K a
 | _::r,n+1,i,K=>ZqW r n i K
theorem Zh2:∀ (m:List Nat) (n i:Nat) (K:Nat->Prop),ZqW m n i K=K ((m[n]?).getD i)
 | [],_,_,_=>rfl
 | _::_,0,_,_=>rfl
 | _::r,n+1,i,K=>Zh2 r n i K
mutual
def Zlq (m:List Nat):SV->(SV->Prop)->Prop
 | .ptr id off,K=>ZqW m id id λj=>K (.ptr j off)
 | .own id,K=>ZqW m id id λj=>K (.own j)
 | .oep id sz i off,K=>ZqW m id id λj=>K (.oep j sz i off)
 | .mown id,K=>ZqW m id id λj=>K (.mown j)
 | .fptr cs,K=>ZjG m cs λcs=>K (.fptr cs)
 | .agg cs,K=>ZjG m cs λcs=>K (.agg cs)
 | .tup cs,K=>ZjG m cs λcs=>K (.tup cs)
 | .fn f cs,K=>ZjG m cs λcs=>K (.fn f cs)
 | .bot,K=>K .bot
 | .int k n,K=>K (.int k n)
 | .bool b,K=>K (.bool b)
 | .blit b,K=>K (.blit b)
 | .str s,K=>K (.str s)
 | .sl t d,K=>K (.sl t d)
 | .nsl,K=>K .nsl
 | .nilp,K=>K .nilp
 | .nptr t d,K=>K (.nptr t d)
 | .mp k v d,K=>K (.mp k v d)
def ZjG (m:List Nat):List SV->(List SV->Prop)->Prop
 | [],K=>K []
 | c::cs,K=>Zlq m c λc=>ZjG m cs λcs=>K (c::cs)
end
mutual
theorem Zt8 (m:List Nat):∀ (s:SV) (K:SV->Prop),Zlq m s K=K (Zzq m s)
 | .ptr id off,K=>by simp only[Zlq,Zh2];rfl
 | .own id,K=>by simp only[Zlq,Zh2];rfl
 | .oep id sz i off,K=>by simp only[Zlq,Zh2];rfl
 | .mown id,K=>by simp only[Zlq,Zh2];rfl
 | .fptr cs,K=>by simp only[Zlq,ZfF m cs];rfl
 | .agg cs,K=>by simp only[Zlq,ZfF m cs];rfl
 | .tup cs,K=>by simp only[Zlq,ZfF m cs];rfl
 | .fn f cs,K=>by simp only[Zlq,ZfF m cs];rfl
 | .bot,K=>rfl
 | .int k n,K=>rfl
 | .bool b,K=>rfl
 | .blit b,K=>rfl
 | .str s,K=>rfl
 | .sl t d,K=>rfl
 | .nsl,K=>rfl
 | .nilp,K=>rfl
 | .nptr t d,K=>rfl
 | .mp k v d,K=>rfl
theorem ZfF (m:List Nat):∀ (l:List SV) (K:List SV->Prop),ZjG m l K=K (ZsC m l)
 | [],K=>rfl
 | c::cs,K=>by simp only[ZjG,Zt8 m c,ZfF m cs];rfl
end
def ZvY (m:List Nat):Entry->(Entry->Prop)->Prop
 | .box cells,K=>ZjG m cells λcs=>K (.box cs)
 | .fbx cells,K=>ZjG m cells λcs=>K (.fbx cs)
 | .hole et e d i cells fp,K=>ZjG m cells λcs=>K (.hole et e d i cs fp)
 | .hsp et e d i cells fp,K=>ZjG m cells λcs=>K (.hsp et e d i cs fp)
 | .gone,K=>K .gone
 | .arr et t d,K=>K (.arr et t d)
 | .frz t d,K=>K (.frz t d)
 | .darr et e d fp,K=>K (.darr et e d fp)
 | .spl et e d n fp,K=>K (.spl et e d n fp)
 | .mpe k v d,K=>K (.mpe k v d)
 | .frm k v d,K=>K (.frm k v d)
theorem Zt7 (m:List Nat) (e:Entry) (K:Entry->Prop):ZvY m e K=K (Zw0 m e):=by
 cases e<;>first | rfl | (simp only[ZvY,ZfF];rfl)
def Zt5 (H:List Entry) (m:List Nat):List Nat->(List Entry->Prop)->Prop
 | [],K=>K []
 | j::r,K=>ZeE H j λe=>ZvY m e λe=>Zt5 H m r λl=>K (e::l)
theorem Zqa (H:List Entry) (m:List Nat):∀ (o:List Nat) {K:List Entry->Prop},Zt5 H m o K->∃ l,K l/\l.length=o.length/\∀ (i:Nat) (e':Entry),l[i]?=some e'->∃ j e,o[i]?=some j/\H[j]?=some e/\e'=Zw0 m e
 | [],K,h=>⟨[],h,rfl,λi e' hi=>by cases hi⟩
 | j::r,K,h=>by
  unfold Zt5 at h;obtain ⟨e,he,h⟩:=Yy H h;rw[Zt7] at h;obtain ⟨l,h1,h2,h3⟩:=Zqa H m r h;refine ⟨_,h1,by simp[h2],λi e' hi=>?_⟩;cases i with
  | zero =>
   rw[List.getElem?_cons_zero] at hi;injection hi with hi
   exact ⟨j,e,rfl,he,hi.symm⟩
  | succ i =>
   rw[List.getElem?_cons_succ] at hi;exact h3 i e' hi
def ZxM:List Nat->Nat->Nat->Bool
 | [],_,_=>false
 | a::_,0,x=>Nat.beq a x
 | _::r,n+1,x=>ZxM r n x
theorem ZoN:∀ (l:List Nat) {n x:Nat},ZxM l n x=true->l[n]?=some x
 | [],_,_,h=>by cases h
 | a::_,0,x,h=>by rw[List.getElem?_cons_zero,Nat.eq_of_beq_eq_true h]
 | _::r,n+1,x,h=>by rw[List.getElem?_cons_succ];exact ZoN r h
def ZwO (m:List Nat):List Nat->Nat->Bool
 | [],_=>true
 | j::r,k=>ZxM m j k&&ZwO m r (k+1)
theorem ZoI (m:List Nat):∀ (o:List Nat) (k:Nat),ZwO m o k=true->∀ (i j:Nat),o[i]?=some j->m[j]?=some (k+i)
 | [],_,_,i,j,h=>by cases h
 | a::r,k,h,i,j,hi=>by
  unfold ZwO at h;rw[Bool.and_eq_true] at h;cases i with
  | zero =>
   rw[List.getElem?_cons_zero] at hi;injection hi with hi
   subst hi;exact ZoN m h.1
  | succ i =>
   rw[List.getElem?_cons_succ] at hi;have:=ZoI m r (k+1) h.2 i j hi;rw[this];congr 1;omega
def ZxF (m:List Nat):Nat->Bool
 | 0=>true
 | n+1=>ZxM m n n&&ZxF m n
theorem ZrV (m:List Nat):∀ (n:Nat),ZxF m n=true->∀ i,i<n->m[i]?=some i
 | 0,_,i,hi=>by omega
 | n+1,h,i,hi=>by
  unfold ZxF at h;rw[Bool.and_eq_true] at h;by_cases e:i=n
  ·subst e;exact ZoN m h.1
  ·exact ZrV m n h.2 i (by omega)
def Zue {α β:Type}:List α->List β->Bool
 | [],[]=>true
 | _::r,_::s=>Zue r s
 | _,_=>false
theorem ZmU {α β:Type}:∀ (l:List α) (r:List β),Zue l r=true->l.length=r.length
 | [],[],_=>rfl
 | _::r,_::s,h=>by simp[ZmU r s h]
 | [],_::_,h=>by cases h
 | _::_,[],h=>by cases h
def ZxH (i:Nat):List Nat->Bool
 | []=>false
 | j::r=>Nat.beq j i||ZxH i r
def ZwP:List Entry->Nat->Bool
 | [],_=>false
 | .box _::_,0=>true
 | _::_,0=>false
 | _::r,n+1=>ZwP r n
def ZuY (n0:Nat) (H:List Entry):List SV->List Nat->(List Nat->Prop)->Prop
 | [],acc,K=>K acc
 | .ptr id _::r,acc,K=>match Nat.ble n0 id&&ZwP H id&&!ZxH id acc with
  | true=>ZuY n0 H r (id::acc) K
  | false=>ZuY n0 H r acc K
 | .own id::r,acc,K=>match Nat.ble n0 id&&!ZxH id acc with
  | true=>ZuY n0 H r (id::acc) K
  | false=>ZuY n0 H r acc K
 | _::r,acc,K=>ZuY n0 H r acc K
theorem ZoO (n0:Nat) (H:List Entry) {K:List Nat->Prop}:∀ (l:List SV) (acc:List Nat),ZuY n0 H l acc K->∃ c,K c
 | [],acc,h=>⟨acc,h⟩
 | s::r,acc,h=>by
  cases s<;>unfold ZuY at h<;>first
   | exact ZoO n0 H r _ h
   | (split at h<;>exact ZoO n0 H r _ h)
def ZsG (c:List Nat):List Entry->Nat->(List Nat->Prop)->Prop
 | [],_,K=>K c
 | _::r,i,K=>match ZxH i c with
  | true=>ZsG c r (i+1) K
  | false=>ZsG c r (i+1) λl=>K (i::l)
theorem ZmT (c:List Nat):∀ (H:List Entry) (i:Nat) {K:List Nat->Prop},ZsG c H i K->∃ o,K o
 | [],_,_,h=>⟨c,h⟩
 | _::r,i,K,h=>by
  unfold ZsG at h;split at h
  ·exact ZmT c r (i+1) h
  ·obtain ⟨o,h⟩:=ZmT c r (i+1) h
   exact ⟨_,h⟩
def ZtH:List Nat->Nat->Nat->(Nat->Prop)->Prop
 | [],_,k,K=>K k
 | a::r,j,k,K=>match Nat.beq a j with
  | true=>K k
  | false=>ZtH r j (k+1) K
theorem Zpy:∀ (o:List Nat) (j k:Nat) {K:Nat->Prop},ZtH o j k K->∃ p,K p
 | [],_,k,_,h=>⟨k,h⟩
 | a::r,j,k,K,h=>by
  unfold ZtH at h;split at h
  ·exact ⟨k,h⟩
  ·exact Zpy r j (k+1) h
def ZxQ (o:List Nat):List Entry->Nat->(List Nat->Prop)->Prop
 | [],_,K=>K []
 | _::r,j,K=>ZtH o j 0 λp=>ZxQ o r (j+1) λl=>K (p::l)
theorem Zst (o:List Nat):∀ (H:List Entry) (j:Nat) {K:List Nat->Prop},ZxQ o H j K->∃ m,K m
 | [],_,_,h=>⟨[],h⟩
 | _::r,j,K,h=>by
  unfold ZxQ at h;obtain ⟨p,h⟩:=Zpy o j 0 h;obtain ⟨m,h⟩:=Zst o r (j+1) h;exact ⟨_,h⟩
def canonK (n0:Nat) (regs:List SV) (H:List Entry) (K:List SV->List Entry->Prop):Prop :=
 ZuY n0 H regs [] λc=>match c with
  | []=>K regs H
  | c=>ZsG c H 0 λo=>ZxQ o H 0 λm=>match (Zue o H&&Zue m H&&ZwO m o 0&&ZwO o m 0&&ZxF m n0) with
   | true=>ZjG m regs λregs'=>Zt5 H m o λH'=>K regs' H'
   | false=>False
theorem Zrt {B:Base} {n0:Nat} {regs:List SV} {H:List Entry} {a:Act} {w:World} {K:List SV->List Entry->Prop} (hpin:∀ (i:Nat) (v:Value),B.pin[i]?=some v->i<n0) (h:canonK n0 regs H K) (hc:Conc B regs H a w) :
  ∃ regs' H',K regs' H'/\Conc B regs' H' a w:=by
 unfold canonK at h;obtain ⟨c,h⟩:=ZoO n0 H _ _ h;split at h
 ·exact ⟨regs,H,h,hc⟩
 ·obtain ⟨o,h⟩:=ZmT _ H 0 h
  obtain ⟨m,h⟩:=Zst o H 0 h;split at h
  ·rename_i hb
   simp only[Bool.and_eq_true] at hb;obtain ⟨⟨⟨⟨b1,b2⟩,b3⟩,b4⟩,b5⟩:=hb;have c1:=ZmU _ _ b1;have c2:=ZmU _ _ b2;have c3:=ZoI m o 0 b3;have c4:=ZoI o m 0 b4;have c5:=ZrV m n0 b5;rw[ZfF] at h;obtain ⟨H',h,g1,g2⟩:=Zqa H m o h;refine ⟨_,H',h,?_⟩;obtain ⟨E,hw,hI,hd,hdef⟩:=hc
   let ids':=o.map λj=>(E.ids[j]?).getD undef
   have hm:∀ j,j<H.length->∃ k,m[j]?=some k/\o[k]?=some j/\ZnR m j=k:=λj hj=>by
    have e:m[j]?=some (m[j]'(by omega)):=List.getElem?_eq_getElem _;have:=c4 j _ e;rw[Nat.zero_add] at this;exact ⟨_,e,this,by unfold ZnR;rw[e];rfl⟩
   have hids:∀ i v,E.ids[i]?=some v->ids'[ZnR m i]?=some v:=λi v hi=>by
    have hl:=(List.getElem?_eq_some_iff.1 hi).1;rw[hI.len] at hl;obtain ⟨k,_,e2,e3⟩:=hm i hl;rw[e3];show (o.map _)[k]?=_;rw[List.getElem?_map,e2];show some ((E.ids[i]?).getD undef)=_;rw[hi];rfl
   have hback:∀ i v,ids'[i]?=some v->∃ j,o[i]?=some j/\E.ids[j]?=some v/\ZnR m j=i:=λi v hi=>by
    have hi':(o.map λj=>(E.ids[j]?).getD undef)[i]?=some v:=hi;rw[List.getElem?_map] at hi';cases e:o[i]? with
    | none=>rw[e] at hi';cases hi'
    | some j =>
     rw[e] at hi';have e':=c3 i j e;rw[Nat.zero_add] at e';have hj:j<H.length:=by rw[<-c2];exact (List.getElem?_eq_some_iff.1 e').1
     have hjv:E.ids[j]?=some (E.ids[j]'(by rw[hI.len];exact hj)):=List.getElem?_eq_getElem _;refine ⟨j,rfl,?_,by unfold ZnR;rw[e'];rfl⟩;injection hi' with hi'
     have ev:v=E.ids[j]'(by rw[hI.len];exact hj):=by
      rw[<-hi'];show (E.ids[j]?).getD undef=_;rw[hjv];rfl
     rw[hjv,<-ev]
   refine ⟨⟨E.S,E.w,ids'⟩,hw,⟨hI.keeps,hI.Slt,hI.Sold,?_,λi v hi=>?_,λi e' hi=>?_,λi e' v g hi hl hv hb=>?_,λi j ei ej vi vj g hi hj li lj vi' vj' bi bj=>?_⟩,Zdi hids _ _ hd,hdef⟩
   ·show (o.map _).length=H'.length
    rw[List.length_map,g1]
   ·have:=hids i v (hI.pin i v hi)
    rw[show ZnR m i=i by unfold ZnR;rw[c5 i (hpin i v hi)];rfl] at this;exact this
   ·obtain ⟨j,e,o1,o2,rfl⟩:=g2 i e' hi
    have:=c3 i j o1;rw[Nat.zero_add] at this;have er:=ZtF hids j e (hI.ent j e o2);rw[show ZnR m j=i by unfold ZnR;rw[this];rfl] at er;exact er
   ·obtain ⟨j,e,o1,o2,rfl⟩:=g2 i e' hi
    obtain ⟨j',p1,p2,_⟩:=hback i v hv;rw[o1] at p1;injection p1 with p1
    subst p1;rw[ZnQ] at hl;exact hI.free j e v g o2 hl p2 ((ZmQ m e v g).1 hb)
   ·obtain ⟨j1,e1,o1,o2,rfl⟩:=g2 i ei hi
    obtain ⟨j2,e2,q1,q2,rfl⟩:=g2 j ej hj;obtain ⟨k1,p1,p2,p3⟩:=hback i vi vi';obtain ⟨k2,r1,r2,r3⟩:=hback j vj vj';rw[o1] at p1;injection p1 with p1
    subst p1;rw[q1] at r1;injection r1 with r1
    subst r1;rw[ZnQ] at li lj;have:=hI.sep j1 j2 e1 e2 vi vj g o2 q2 li lj p2 r2 ((ZmQ m e1 vi g).1 bi) ((ZmQ m e2 vj g).1 bj);rw[<-p3,<-r3,this]
  ·exact h.elim
end Go.Sx
