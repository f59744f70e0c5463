/-
  The call's own things put in another order: variables that a region takes come last, in the order of the slots that hold them.
-/
import Derived.Test.YtnnbgbgapogckaaGreatDoorSxBox
namespace Go.Sx
set_option linter.unusedVariables false
set_option linter.unusedSimpArgs false
def Zgh (m:List Nat) (i:Nat):Nat:=(m[i]?).getD i
mutual
def Zn1 (m:List Nat):SV→SV
 | .ptr id off=>.ptr (Zgh m id) off
 | .own id=>.own (Zgh m id)
 | .oep id sz i off=>.oep (Zgh m id) sz i off
 | .mown id=>.mown (Zgh m id)
 | .fptr cs=>.fptr (ZjF m cs)
 | .agg cs=>.agg (ZjF m cs)
 | .tup cs=>.tup (ZjF m cs)
 | .fn f cs=>.fn f (ZjF m cs)
 | .bot=>.bot
 | .int k n=>.int k n
 | .bool b=>.bool b
 | .blit b=>.blit b
 | .str s=>.str s
 | .sl t d=>.sl t d
 | .nsl=>.nsl
 | .nilp=>.nilp
 | .nptr t d=>.nptr t d
 | .mp k v d=>.mp k v d
def ZjF (m:List Nat):List SV→List SV
 | []=>[]
 | c::cs=>Zn1 m c::ZjF m cs
end
def ZmQ (m:List Nat):Entry→Entry
 | .box cells=>.box (ZjF m cells)
 | .fbx cells=>.fbx (ZjF m cells)
 | .hole et e d i cells fp=>.hole et e d i (ZjF m cells) fp
 | .hsp et e d i cells fp=>.hsp et e d i (ZjF m cells) fp
 | e=>e
section
variable {E:Env} {ids':List Value} {m:List Nat}
mutual
theorem ZlL (h:∀ i v,E.ids[i]?=some v→ids'[Zgh m i]?=some v):∀ (s:SV) (v:Value),den E s v→den ⟨E.S,E.w,ids'⟩ (Zn1 m s) v
 | .bot,_,_=>trivial
 | .int _ _,_,e=>e
 | .bool _,_,e=>e
 | .blit _,_,e=>e
 | .str _,_,e=>e
 | .sl t d,v,e=>e
 | .nsl,_,e=>e
 | .ptr _ _,_,⟨b,e1,e2⟩=>⟨b,h _ _ e1,e2⟩
 | .own _,_,⟨e1,e2⟩=>⟨h _ _ e1,e2⟩
 | .oep _ _ _ _,_,⟨b,bo,n,c,e1,e2⟩=>⟨b,bo,n,c,h _ _ e1,e2⟩
 | .fptr cs,_,⟨p,vs,e1,e2,e3,e4,e5⟩=>⟨p,vs,e1,e2,e3,e4,VK h cs vs e5⟩
 | .agg cs,_,⟨vs,e1,e2⟩=>⟨vs,e1,VK h cs vs e2⟩
 | .tup cs,_,⟨vs,e1,e2⟩=>⟨vs,e1,VK h cs vs e2⟩
 | .fn _ cs,_,⟨vs,e1,e2⟩=>⟨vs,e1,VK h cs vs e2⟩
 | .nilp,_,e=>e
 | .nptr t d,v,e=>e
 | .mown _,_,⟨e1,e2⟩=>⟨h _ _ e1,e2⟩
 | .mp k u d,v,e=>e
theorem VK (h:∀ i v,E.ids[i]?=some v→ids'[Zgh m i]?=some v):∀ (cs:List SV) (vs:List Value),Zy E cs vs→Zy ⟨E.S,E.w,ids'⟩ (ZjF m cs) vs
 | [],[],_=>trivial
 | c::cs,v::vs,⟨e1,e2⟩=>⟨ZlL h c v e1,VK h cs vs e2⟩
 | [],_::_,e=>e
 | _::_,[],e=>e
end
theorem Zkr (h:∀ i v,E.ids[i]?=some v→ids'[Zgh m i]?=some v) (i:Nat):∀ e:Entry,Zhn E i e→Zhn ⟨E.S,E.w,ids'⟩ (Zgh m i) (ZmQ m e)
 | .gone,_=>trivial
 | .box cells,⟨b,cs,T,e1,e2,e3⟩=>⟨b,cs,T,h _ _ e1,e2,VK h _ _ e3⟩
 | .arr et t d,⟨v,xs,e1,r⟩=>⟨v,xs,h _ _ e1,r⟩
 | .frz t d,⟨v,e1,r⟩=>⟨v,h _ _ e1,r⟩
 | .fbx cells,⟨b,cs,T,e1,e2,e3,e4⟩=>⟨b,cs,T,h _ _ e1,e2,e3,VK h _ _ e4⟩
 | .darr et e d fp,⟨v,xs,fps,e1,r⟩=>⟨v,xs,fps,h _ _ e1,r⟩
 | .hole et e d i cells fp,⟨v,xs,x1,vx,x2,f1,f2,e1,a1,a2,a3,a4,a5,a6,a7,a8,a9,r⟩=>⟨v,xs,x1,vx,x2,f1,f2,h _ _ e1,a1,a2,a3,a4,a5,a6,a7,a8,VK h _ _ a9,r⟩
 | .spl et e d n fp,⟨v,e1,r⟩=>⟨v,h _ _ e1,r⟩
 | .hsp et e d i cells fp,⟨v,xs,x1,vx,x2,f1,e1,a1,a2,a3,a4,a5,a6,a7,a8,a9,r⟩=>⟨v,xs,x1,vx,x2,f1,h _ _ e1,a1,a2,a3,a4,a5,a6,a7,a8,VK h _ _ a9,r⟩
 | .mpe k v d,⟨b,es,clk,e1,r⟩=>⟨b,es,clk,h _ _ e1,r⟩
 | .frm k v d,⟨u,e1,r⟩=>⟨u,h _ _ e1,r⟩
end
theorem Zgg (m:List Nat) (e:Entry):(ZmQ m e).live=e.live:=by cases e<;>rfl
theorem ZfA (m:List Nat) (e:Entry) (v:Value) (g:Nat):Ju (ZmQ m e) v g↔Ju e v g:=by cases e<;>exact Iff.rfl
def Zie:List Nat→Nat→Nat→(Nat→Prop)→Prop
 | [],_,i,K=>K i
 | a::_,0,_,K=>K a
 | _::r,n+1,i,K=>Zie r n i K
theorem ZbK:∀ (m:List Nat) (n i:Nat) (K:Nat→Prop),Zie m n i K=K ((m[n]?).getD i)
 | [],_,_,_=>rfl
 | _::_,0,_,_=>rfl
 | _::r,n+1,i,K=>ZbK r n i K
mutual
def Zeu (m:List Nat):SV→(SV→Prop)→Prop
 | .ptr id off,K=>Zie m id id fun j=>K (.ptr j off)
 | .own id,K=>Zie m id id fun j=>K (.own j)
 | .oep id sz i off,K=>Zie m id id fun j=>K (.oep j sz i off)
 | .mown id,K=>Zie m id id fun j=>K (.mown j)
 | .fptr cs,K=>ZcQ m cs fun cs=>K (.fptr cs)
 | .agg cs,K=>ZcQ m cs fun cs=>K (.agg cs)
 | .tup cs,K=>ZcQ m cs fun cs=>K (.tup cs)
 | .fn f cs,K=>ZcQ m cs fun cs=>K (.fn f cs)
 | .bot,K=>K .bot
 | .int k n,K=>K (.int k n)
 | .bool b,K=>K (.bool b)
 | .blit b,K=>K (.blit b)
 | .str s,K=>K (.str s)
 | .sl t d,K=>K (.sl t d)
 | .nsl,K=>K .nsl
 | .nilp,K=>K .nilp
 | .nptr t d,K=>K (.nptr t d)
 | .mp k v d,K=>K (.mp k v d)
def ZcQ (m:List Nat):List SV→(List SV→Prop)→Prop
 | [],K=>K []
 | c::cs,K=>Zeu m c fun c=>ZcQ m cs fun cs=>K (c::cs)
end
mutual
theorem ZkT (m:List Nat):∀ (s:SV) (K:SV→Prop),Zeu m s K=K (Zn1 m s)
 | .ptr id off,K=>by simp only [Zeu,ZbK];rfl
 | .own id,K=>by simp only [Zeu,ZbK];rfl
 | .oep id sz i off,K=>by simp only [Zeu,ZbK];rfl
 | .mown id,K=>by simp only [Zeu,ZbK];rfl
 | .fptr cs,K=>by simp only [Zeu,J2 m cs];rfl
 | .agg cs,K=>by simp only [Zeu,J2 m cs];rfl
 | .tup cs,K=>by simp only [Zeu,J2 m cs];rfl
 | .fn f cs,K=>by simp only [Zeu,J2 m cs];rfl
 | .bot,K=>rfl
 | .int k n,K=>rfl
 | .bool b,K=>rfl
 | .blit b,K=>rfl
 | .str s,K=>rfl
 | .sl t d,K=>rfl
 | .nsl,K=>rfl
 | .nilp,K=>rfl
 | .nptr t d,K=>rfl
 | .mp k v d,K=>rfl
theorem J2 (m:List Nat):∀ (l:List SV) (K:List SV→Prop),ZcQ m l K=K (ZjF m l)
 | [],K=>rfl
 | c::cs,K=>by simp only [ZcQ,ZkT m c,J2 m cs];rfl
end
def Zl4 (m:List Nat):Entry→(Entry→Prop)→Prop
 | .box cells,K=>ZcQ m cells fun cs=>K (.box cs)
 | .fbx cells,K=>ZcQ m cells fun cs=>K (.fbx cs)
 | .hole et e d i cells fp,K=>ZcQ m cells fun cs=>K (.hole et e d i cs fp)
 | .hsp et e d i cells fp,K=>ZcQ m cells fun cs=>K (.hsp et e d i cs fp)
 | .gone,K=>K .gone
 | .arr et t d,K=>K (.arr et t d)
 | .frz t d,K=>K (.frz t d)
 | .darr et e d fp,K=>K (.darr et e d fp)
 | .spl et e d n fp,K=>K (.spl et e d n fp)
 | .mpe k v d,K=>K (.mpe k v d)
 | .frm k v d,K=>K (.frm k v d)
theorem ZkS (m:List Nat) (e:Entry) (K:Entry→Prop):Zl4 m e K=K (ZmQ m e):=by
 cases e<;>first | rfl | (simp only [Zl4,J2];rfl)
def ZkO (H:List Entry) (m:List Nat):List Nat→(List Entry→Prop)→Prop
 | [],K=>K []
 | j::r,K=>Jk H j fun e=>Zl4 m e fun e=>ZkO H m r fun l=>K (e::l)
theorem ZhP (H:List Entry) (m:List Nat):∀ (o:List Nat) {K:List Entry→Prop},ZkO H m o K→∃ l,K l∧l.length=o.length∧∀ (i:Nat) (e':Entry),l[i]?=some e'→∃ j e,o[i]?=some j∧H[j]?=some e∧e'=ZmQ m e
 | [],K,h=>⟨[],h,rfl,fun i e' hi=>by cases hi⟩
 | j::r,K,h=>by
  unfold ZkO at h
  obtain ⟨e,he,h⟩:=ZK H h
  rw [ZkS] at h
  obtain ⟨l,h1,h2,h3⟩:=ZhP H m r h
  refine ⟨_,h1,by simp [h2],fun i e' hi=>?_⟩
  cases i with
  | zero =>
   rw [List.getElem?_cons_zero] at hi
   injection hi with hi
   exact ⟨j,e,rfl,he,hi.symm⟩
  | succ i =>
   rw [List.getElem?_cons_succ] at hi
   exact h3 i e' hi
def Znl:List Nat→Nat→Nat→Bool
 | [],_,_=>false
 | a::_,0,x=>Nat.beq a x
 | _::r,n+1,x=>Znl r n x
theorem ZgZ:∀ (l:List Nat) {n x:Nat},Znl l n x=true→l[n]?=some x
 | [],_,_,h=>by cases h
 | a::_,0,x,h=>by rw [List.getElem?_cons_zero,Nat.eq_of_beq_eq_true h]
 | _::r,n+1,x,h=>by rw [List.getElem?_cons_succ];exact ZgZ r h
def ZmM (m:List Nat):List Nat→Nat→Bool
 | [],_=>true
 | j::r,k=>Znl m j k&&ZmM m r (k+1)
theorem ZgT (m:List Nat):∀ (o:List Nat) (k:Nat),ZmM m o k=true→∀ (i j:Nat),o[i]?=some j→m[j]?=some (k+i)
 | [],_,_,i,j,h=>by cases h
 | a::r,k,h,i,j,hi=>by
  unfold ZmM at h
  rw [Bool.and_eq_true] at h
  cases i with
  | zero =>
   rw [List.getElem?_cons_zero] at hi
   injection hi with hi
   subst hi
   exact ZgZ m h.1
  | succ i =>
   rw [List.getElem?_cons_succ] at hi
   have:=ZgT m r (k+1) h.2 i j hi
   rw [this]
   congr 1
   omega
def Znh (m:List Nat):Nat→Bool
 | 0=>true
 | n+1=>Znl m n n&&Znh m n
theorem Zjc (m:List Nat):∀ (n:Nat),Znh m n=true→∀ i,i<n→m[i]?=some i
 | 0,_,i,hi=>by omega
 | n+1,h,i,hi=>by
  unfold Znh at h
  rw [Bool.and_eq_true] at h
  by_cases e:i=n
  ·subst e;exact ZgZ m h.1
  ·exact Zjc m n h.2 i (by omega)
def ZkX {α β:Type}:List α→List β→Bool
 | [],[]=>true
 | _::r,_::s=>ZkX r s
 | _,_=>false
theorem ZfE {α β:Type}:∀ (l:List α) (r:List β),ZkX l r=true→l.length=r.length
 | [],[],_=>rfl
 | _::r,_::s,h=>by simp [ZfE r s h]
 | [],_::_,h=>by cases h
 | _::_,[],h=>by cases h
def ZnU (i:Nat):List Nat→Bool
 | []=>false
 | j::r=>Nat.beq j i||ZnU i r
def ZmN:List Entry→Nat→Bool
 | [],_=>false
 | .box _::_,0=>true
 | _::_,0=>false
 | _::r,n+1=>ZmN r n
def Zmr (n0:Nat) (H:List Entry):List SV→List Nat→(List Nat→Prop)→Prop
 | [],acc,K=>K acc
 | .ptr id _::r,acc,K=>match Nat.ble n0 id&&ZmN H id&&!ZnU id acc with
  | true=>Zmr n0 H r (id::acc) K
  | false=>Zmr n0 H r acc K
 | .own id::r,acc,K=>match Nat.ble n0 id&&!ZnU id acc with
  | true=>Zmr n0 H r (id::acc) K
  | false=>Zmr n0 H r acc K
 | _::r,acc,K=>Zmr n0 H r acc K
theorem Zg0 (n0:Nat) (H:List Entry) {K:List Nat→Prop}:∀ (l:List SV) (acc:List Nat),Zmr n0 H l acc K→∃ c,K c
 | [],acc,h=>⟨acc,h⟩
 | s::r,acc,h=>by
  cases s<;>unfold Zmr at h<;>first
   | exact Zg0 n0 H r _ h
   | (split at h<;>exact Zg0 n0 H r _ h)
def ZjJ (c:List Nat):List Entry→Nat→(List Nat→Prop)→Prop
 | [],_,K=>K c
 | _::r,i,K=>match ZnU i c with
  | true=>ZjJ c r (i+1) K
  | false=>ZjJ c r (i+1) fun l=>K (i::l)
theorem ZfD (c:List Nat):∀ (H:List Entry) (i:Nat) {K:List Nat→Prop},ZjJ c H i K→∃ o,K o
 | [],_,_,h=>⟨c,h⟩
 | _::r,i,K,h=>by
  unfold ZjJ at h
  split at h
  ·exact ZfD c r (i+1) h
  ·obtain ⟨o,h⟩:=ZfD c r (i+1) h
   exact ⟨_,h⟩
def Zkt:List Nat→Nat→Nat→(Nat→Prop)→Prop
 | [],_,k,K=>K k
 | a::r,j,k,K=>match Nat.beq a j with
  | true=>K k
  | false=>Zkt r j (k+1) K
theorem Zht:∀ (o:List Nat) (j k:Nat) {K:Nat→Prop},Zkt o j k K→∃ p,K p
 | [],_,k,_,h=>⟨k,h⟩
 | a::r,j,k,K,h=>by
  unfold Zkt at h
  split at h
  ·exact ⟨k,h⟩
  ·exact Zht r j (k+1) h
def Znp (o:List Nat):List Entry→Nat→(List Nat→Prop)→Prop
 | [],_,K=>K []
 | _::r,j,K=>Zkt o j 0 fun p=>Znp o r (j+1) fun l=>K (p::l)
theorem ZjB (o:List Nat):∀ (H:List Entry) (j:Nat) {K:List Nat→Prop},Znp o H j K→∃ m,K m
 | [],_,_,h=>⟨[],h⟩
 | _::r,j,K,h=>by
  unfold Znp at h
  obtain ⟨p,h⟩:=Zht o j 0 h
  obtain ⟨m,h⟩:=ZjB o r (j+1) h
  exact ⟨_,h⟩
def canonK (n0:Nat) (regs:List SV) (H:List Entry) (K:List SV→List Entry→Prop):Prop :=
 Zmr n0 H regs [] fun c=>match c with
  | []=>K regs H
  | c=>ZjJ c H 0 fun o=>Znp o H 0 fun m=>match (ZkX o H&&ZkX m H&&ZmM m o 0&&ZmM o m 0&&Znh m n0) with
   | true=>ZcQ m regs fun regs'=>ZkO H m o fun H'=>K regs' H'
   | false=>False
theorem ZiH {B:Base} {n0:Nat} {regs:List SV} {H:List Entry} {a:Act} {w:World} {K:List SV→List Entry→Prop} (hpin:∀ (i:Nat) (v:Value),B.pin[i]?=some v→i<n0) (h:canonK n0 regs H K) (hc:Conc B regs H a w) :
  ∃ regs' H',K regs' H'∧Conc B regs' H' a w:=by
 unfold canonK at h
 obtain ⟨c,h⟩:=Zg0 n0 H _ _ h
 split at h
 ·exact ⟨regs,H,h,hc⟩
 ·obtain ⟨o,h⟩:=ZfD _ H 0 h
  obtain ⟨m,h⟩:=ZjB o H 0 h
  split at h
  ·rename_i hb
   simp only [Bool.and_eq_true] at hb
   obtain ⟨⟨⟨⟨b1,b2⟩,b3⟩,b4⟩,b5⟩:=hb
   have c1:=ZfE _ _ b1
   have c2:=ZfE _ _ b2
   have c3:=ZgT m o 0 b3
   have c4:=ZgT o m 0 b4
   have c5:=Zjc m n0 b5
   rw [J2] at h
   obtain ⟨H',h,g1,g2⟩:=ZhP H m o h
   refine ⟨_,H',h,?_⟩
   obtain ⟨E,hw,hI,hd,hdef⟩:=hc
   let ids':=o.map fun j=>(E.ids[j]?).getD undef
   have hm:∀ j,j<H.length→∃ k,m[j]?=some k∧o[k]?=some j∧Zgh m j=k:=fun j hj=>by
    have e:m[j]?=some (m[j]'(by omega)):=List.getElem?_eq_getElem _
    have:=c4 j _ e
    rw [Nat.zero_add] at this
    exact ⟨_,e,this,by unfold Zgh;rw [e];rfl⟩
   have hids:∀ i v,E.ids[i]?=some v→ids'[Zgh m i]?=some v:=fun i v hi=>by
    have hl:=(List.getElem?_eq_some_iff.1 hi).1
    rw [hI.len] at hl
    obtain ⟨k,_,e2,e3⟩:=hm i hl
    rw [e3]
    show (o.map _)[k]?=_
    rw [List.getElem?_map,e2]
    show some ((E.ids[i]?).getD undef)=_
    rw [hi]
    rfl
   have hback:∀ i v,ids'[i]?=some v→∃ j,o[i]?=some j∧E.ids[j]?=some v∧Zgh m j=i:=fun i v hi=>by
    have hi':(o.map fun j=>(E.ids[j]?).getD undef)[i]?=some v:=hi
    rw [List.getElem?_map] at hi'
    cases e:o[i]? with
    | none=>rw [e] at hi';cases hi'
    | some j =>
     rw [e] at hi'
     have e':=c3 i j e
     rw [Nat.zero_add] at e'
     have hj:j<H.length:=by rw [←c2];exact (List.getElem?_eq_some_iff.1 e').1
     have hjv:E.ids[j]?=some (E.ids[j]'(by rw [hI.len];exact hj)):=List.getElem?_eq_getElem _
     refine ⟨j,rfl,?_,by unfold Zgh;rw [e'];rfl⟩
     injection hi' with hi'
     have ev:v=E.ids[j]'(by rw [hI.len];exact hj):=by
      rw [←hi']
      show (E.ids[j]?).getD undef=_
      rw [hjv]
      rfl
     rw [hjv,←ev]
   refine ⟨⟨E.S,E.w,ids'⟩,hw,⟨hI.keeps,hI.Slt,hI.Sold,?_,fun i v hi=>?_,fun i e' hi=>?_,fun i e' v g hi hl hv hb=>?_,fun i j ei ej vi vj g hi hj li lj vi' vj' bi bj=>?_⟩,VK hids _ _ hd,hdef⟩
   ·show (o.map _).length=H'.length
    rw [List.length_map,g1]
   ·have:=hids i v (hI.pin i v hi)
    rw [show Zgh m i=i by unfold Zgh;rw [c5 i (hpin i v hi)];rfl] at this
    exact this
   ·obtain ⟨j,e,o1,o2,rfl⟩:=g2 i e' hi
    have:=c3 i j o1
    rw [Nat.zero_add] at this
    have er:=Zkr hids j e (hI.ent j e o2)
    rw [show Zgh m j=i by unfold Zgh;rw [this];rfl] at er
    exact er
   ·obtain ⟨j,e,o1,o2,rfl⟩:=g2 i e' hi
    obtain ⟨j',p1,p2,_⟩:=hback i v hv
    rw [o1] at p1
    injection p1 with p1
    subst p1
    rw [Zgg] at hl
    exact hI.free j e v g o2 hl p2 ((ZfA m e v g).1 hb)
   ·obtain ⟨j1,e1,o1,o2,rfl⟩:=g2 i ei hi
    obtain ⟨j2,e2,q1,q2,rfl⟩:=g2 j ej hj
    obtain ⟨k1,p1,p2,p3⟩:=hback i vi vi'
    obtain ⟨k2,r1,r2,r3⟩:=hback j vj vj'
    rw [o1] at p1
    injection p1 with p1
    subst p1
    rw [q1] at r1
    injection r1 with r1
    subst r1
    rw [Zgg] at li lj
    have:=hI.sep j1 j2 e1 e2 vi vj g o2 q2 li lj p2 r2 ((ZfA m e1 vi g).1 bi) ((ZfA m e2 vj g).1 bj)
    rw [←p3,←r3,this]
  ·exact h.elim
end Go.Sx
