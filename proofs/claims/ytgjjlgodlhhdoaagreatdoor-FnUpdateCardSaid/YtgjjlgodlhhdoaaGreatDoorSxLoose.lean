/-
  What is held by nobody; what freezing and taking come to.
-/
import Derived.Test.YtgjjlgodlhhdoaaGreatDoorSxHeap
namespace Go.Sx
set_option linter.unusedVariables false
set_option linter.unusedSimpArgs false
structure Loose (B:Base) (E:Env) (H:List Entry) (gs:List Nat):Prop where
  nodup:gs.Nodup
  free:∀ g∈gs,¬E.S g/\(B.w.heap.size<=g\/B.io g)/\g<E.w.heap.size
  apart:∀ g∈gs,∀ (j:Nat) (ej:Entry) (vj:Value),H[j]?=some ej->ej.live=true->E.ids[j]?=some vj->¬ZeY ej vj g
theorem Loose.perm {B:Base} {E:Env} {H:List Entry} {gs gs':List Nat} (h:Loose B E H gs) (hp:gs.Perm gs'):Loose B E H gs' :=
  ⟨hp.nodup_iff.1 h.nodup,λg hg=>h.free g (hp.mem_iff.2 hg),λg hg=>h.apart g (hp.mem_iff.2 hg)⟩
theorem Loose.right {B:Base} {E:Env} {H:List Entry} {f gs:List Nat} (h:Loose B E H (f++gs)):Loose B E H gs :=
  ⟨(List.nodup_append.1 h.nodup).2.1,λg hg=>h.free g (by simp[hg]),λg hg=>h.apart g (by simp[hg])⟩
theorem Loose.push {B:Base} {E:Env} {H:List Entry} {f gs:List Nat} (h:Loose B E H (f++gs)) (hI:Inv B E H) (v:Value) (e:Entry) (hown:e.live=true->∀ g,ZeY e v g->g∈f) (he:Zpr ⟨E.S,E.w,E.ids++[v]⟩ H.length e) :
    Inv B ⟨E.S,E.w,E.ids++[v]⟩ (H++[e])/\Loose B ⟨E.S,E.w,E.ids++[v]⟩ (H++[e]) gs:=by
  refine ⟨hI.push v e he (λhl g hg=>?_),?_⟩
  · have hm:g∈f++gs:=by simp[hown hl g hg]
    obtain ⟨a,b,c⟩:=h.free g hm;exact ⟨a,b,c,λj ej vj hj hl hv=>h.apart g hm j ej vj hj hl hv⟩
  · refine ⟨(List.nodup_append.1 h.nodup).2.1,λg hg=>h.free g (by simp[hg]),λg hg j ej vj hj hl hv hb=>?_⟩
    by_cases hlt:j<H.length
    · rw[List.getElem?_append_left hlt] at hj
      have hv':E.ids[j]?=some vj:=by
        have hlt':j<E.ids.length:=by rw[hI.len];exact hlt
        rwa [List.getElem?_append_left hlt'] at hv
      exact h.apart g (by simp[hg]) j ej vj hj hl hv' hb
    · have h2:j<(H++[e]).length:=(List.getElem?_eq_some_iff.1 hj).1
      have:j=H.length:=by simp at h2;omega
      subst this;simp at hj;subst hj;have hv':vj=v:=by
        have hv2:(E.ids++[v])[H.length]?=some vj:=hv;rw[<-hI.len] at hv2;simpa using hv2.symm
      subst hv';exact (List.nodup_append.1 h.nodup).2.2 g (hown hl g hb) g hg rfl
theorem Loose.take {B:Base} {E:Env} {H:List Entry} {gs:List Nat} (h:Loose B E H gs) (hI:Inv B E H) {i:Nat} {e:Entry} {v:Value} (hi:H[i]?=some e) (hl:e.live=true) (hv:E.ids[i]?=some v) {f:List Nat}
    (hnd:f.Nodup) (hf:∀ g∈f,ZeY e v g):Loose B E (H.set i .gone) (f++gs):=by
  have hlt:i<H.length:=(List.getElem?_eq_some_iff.1 hi).1;have hold:∀ (j:Nat) (ej:Entry),(H.set i .gone)[j]?=some ej->ej.live=true->j≠i/\H[j]?=some ej:=by
    intro j ej hj hl;by_cases hji:i=j
    · subst hji;rw[List.getElem?_set_self hlt] at hj;simp at hj;subst hj;simp[Entry.live] at hl
    · rw[List.getElem?_set_ne hji] at hj;exact ⟨Ne.symm hji,hj⟩
  refine ⟨List.nodup_append.2 ⟨hnd,h.nodup,?_⟩,λg hg=>?_,λg hg j ej vj hj hl' hvj hb=>?_⟩
  · rintro g hg g' hg' rfl
    exact h.apart g hg' i e v hi hl hv (hf g hg)
  · rcases List.mem_append.1 hg with hg | hg
    · exact hI.free i e v g hi hl hv (hf g hg)
    · exact h.free g hg
  · obtain ⟨hne,hj'⟩:=hold j ej hj hl'
    rcases List.mem_append.1 hg with hg | hg
    · exact hne (hI.sep j i ej e vj v g hj' hi hl' hl hvj hv hb (hf g hg))
    · exact h.apart g hg j ej vj hj' hl' hvj hb
theorem Loose.le {B:Base} {E:Env} {H:List Entry} {gs:List Nat} (h:Loose B E H gs):Loose B E H ([]++gs):=h
theorem Loose.put {B:Base} {E:Env} {H:List Entry} {f gs:List Nat} (h:Loose B E H (f++gs)) (hI:Inv B E H) {id:Nat} {v:Value} (hlt:id<H.length) (hv:E.ids[id]?=some v) (e:Entry) (hown:e.live=true->∀ g,ZeY e v g->g∈f) (he:Zpr E id e) :
    Inv B E (H.set id e)/\Loose B E (H.set id e) gs:=by
  have old:∀ (j:Nat) (e1:Entry),(H.set id e)[j]?=some e1->(j=id/\e1=e)\/(j≠id/\H[j]?=some e1):=by
    intro j e1 hj;by_cases hji:id=j
    · subst hji;rw[List.getElem?_set_self hlt] at hj;exact .inl ⟨rfl,by simpa using hj.symm⟩
    · rw[List.getElem?_set_ne hji] at hj;exact .inr ⟨Ne.symm hji,hj⟩
  refine ⟨?_,?_⟩
  · exact
      { keeps:=hI.keeps,Slt:=hI.Slt,Sold:=hI.Sold,len:=by simp[hI.len],pin:=hI.pin
        ent:=λj e1 hj=>by
          rcases old j e1 hj with ⟨rfl,rfl⟩ | ⟨_,hj'⟩
          · exact he
          · exact hI.ent j e1 hj'
        free:=λj e1 u g hj hl hu hb=>by
          rcases old j e1 hj with ⟨rfl,rfl⟩ | ⟨_,hj'⟩
          · have:=hv.symm.trans hu;simp at this;subst this
            exact h.free g (by simp[hown hl g hb])
          · exact hI.free j e1 u g hj' hl hu hb
        sep:=λi j ei ej vi vj g hi hj hli hlj hvi hvj hbi hbj=>by
          rcases old i ei hi with ⟨rfl,rfl⟩ | ⟨hni,hi'⟩
          · have:=hv.symm.trans hvi;simp at this;subst this
            rcases old j ej hj with ⟨rfl,rfl⟩ | ⟨hnj,hj'⟩
            · rfl
            · exact absurd hbj (h.apart g (by simp[hown hli g hbi]) j ej vj hj' hlj hvj)
          · rcases old j ej hj with ⟨rfl,rfl⟩ | ⟨hnj,hj'⟩
            · have:=hv.symm.trans hvj;simp at this;subst this
              exact absurd hbi (h.apart g (by simp[hown hlj g hbj]) i ei vi hi' hli hvi)
            · exact hI.sep i j ei ej vi vj g hi' hj' hli hlj hvi hvj hbi hbj}
  · refine ⟨(List.nodup_append.1 h.nodup).2.1,λg hg=>h.free g (by simp[hg]),λg hg j e1 u hj hl hu hb=>?_⟩
    rcases old j e1 hj with ⟨rfl,rfl⟩ | ⟨_,hj'⟩
    · have:=hv.symm.trans hu;simp at this;subst this
      exact (List.nodup_append.1 h.nodup).2.2 g (hown hl g hb) g hg rfl
    · exact h.apart g (by simp[hg]) j e1 u hj' hl hu hb
theorem Loose.drop {B:Base} {E:Env} {H:List Entry} {gs:List Nat} (h:Loose B E H gs) (i:Nat):Loose B E (H.set i .gone) gs:=by
  refine ⟨h.nodup,h.free,λg hg j ej vj hj hl hv hb=>?_⟩;by_cases hji:i=j
  · subst hji
    have hlt:i<H.length:=by have:=(List.getElem?_eq_some_iff.1 hj).1;simpa using this
    rw[List.getElem?_set_self hlt] at hj;simp at hj;subst hj;cases hl
  · rw[List.getElem?_set_ne hji] at hj;exact h.apart g hg j ej vj hj hl hv hb
theorem Inv.part {B:Base} {E:Env} {H H':List Entry} (h:Inv B E H) (hlen:H'.length=H.length) (hp:∀ (j:Nat) (e:Entry),H'[j]?=some e->e=.gone\/H[j]?=some e):Inv B E H' :=
  { keeps:=h.keeps,Slt:=h.Slt,Sold:=h.Sold,len:=by rw[hlen];exact h.len,pin:=h.pin
    ent:=λj e hj=>by
      rcases hp j e hj with rfl | hj'
      · trivial
      · exact h.ent j e hj'
    free:=λj e v g hj hl hv hb=>by
      rcases hp j e hj with rfl | hj'
      · cases hl
      · exact h.free j e v g hj' hl hv hb
    sep:=λi j ei ej vi vj g hi hj hli hlj hvi hvj hbi hbj=>by
      rcases hp i ei hi with rfl | hi'
      · cases hli
      · rcases hp j ej hj with rfl | hj'
        · cases hlj
        · exact h.sep i j ei ej vi vj g hi' hj' hli hlj hvi hvj hbi hbj}
structure Frz (E:Env) (H:List Entry) (E':Env) (H':List Entry):Prop where
  w:E'.w=E.w
  ids:E'.ids=E.ids
  len:H'.length=H.length
  le:E.le E'
  S:∀ b,E'.S b->E.S b\/∃ (j:Nat) (e:Entry) (v:Value),H[j]?=some e/\e.live=true/\E.ids[j]?=some v/\ZeY e v b
  ent:∀ (j:Nat) (e':Entry) (v:Value) (g:Nat),H'[j]?=some e'->e'.live=true->E.ids[j]?=some v->ZeY e' v g->∃ e,H[j]?=some e/\e.live=true/\ZeY e v g
  box:∀ (i:Nat) (c:List SV),H'[i]?=some (.box c)->H[i]?=some (.box c)
  gone:∀ (i:Nat),H[i]?=some .gone->H'[i]?=some .gone
  same:∀ (j:Nat) (e':Entry),H'[j]?=some e'->e'.live=true->H[j]?=some e'
theorem Frz.refl (E:Env) (H:List Entry):Frz E H E H :=
  ⟨rfl,rfl,rfl,Env.le.refl E,λb h=>.inl h,λj e v g h hl _ hb=>⟨e,h,hl,hb⟩,λ_ _ h=>h,λ_ h=>h,λ_ _ h _=>h⟩
theorem Frz.trans {E:Env} {H:List Entry} {E1:Env} {H1:List Entry} {E2:Env} {H2:List Entry} (h:Frz E H E1 H1) (k:Frz E1 H1 E2 H2):Frz E H E2 H2 where
  w:=k.w.trans h.w
  ids:=k.ids.trans h.ids
  len:=k.len.trans h.len
  le:=h.le.trans k.le
  S:=λb hb=>by
    rcases k.S b hb with hb | ⟨j,e,v,h1,h2,h3,h4⟩
    · exact h.S b hb
    · obtain ⟨e0,g1,g2,g3⟩:=h.ent j e v b h1 h2 (by rw[<-h.ids];exact h3) h4
      exact .inr ⟨j,e0,v,g1,g2,by rw[<-h.ids];exact h3,g3⟩
  ent:=λj e v g hj hl hv hb=>by
    obtain ⟨e1,h1,h2,h3⟩:=k.ent j e v g hj hl (by rw[h.ids];exact hv) hb;exact h.ent j e1 v g h1 h2 hv h3
  box:=λi c hi=>h.box i c (k.box i c hi)
  gone:=λi hi=>k.gone i (h.gone i hi)
  same:=λj e hj hl=>h.same j e (k.same j e hj hl) hl
theorem Frz.one {E:Env} {H:List Entry} {i:Nat} {e0 e1:Entry} {v:Value} (hi:H[i]?=some e0) (hl:e0.live=true) (hv:E.ids[i]?=some v) (hdead:e1.live=false) {S':Nat->Prop}
    (hle:E.le ⟨S',E.w,E.ids⟩) (hS:∀ b,S' b->E.S b\/ZeY e0 v b):Frz E H ⟨S',E.w,E.ids⟩ (H.set i e1):=by
  have hlt:=(List.getElem?_eq_some_iff.1 hi).1;have old:∀ (j:Nat) (e:Entry),(H.set i e1)[j]?=some e->e=e1\/H[j]?=some e:=by
    intro j e hj;by_cases hji:i=j
    · subst hji;rw[List.getElem?_set_self hlt] at hj;exact .inl (by simpa using hj.symm)
    · rw[List.getElem?_set_ne hji] at hj;exact .inr hj
  exact
    { w:=rfl,ids:=rfl,len:=by simp,le:=hle
      S:=λb hb=>(hS b hb).imp_right λh=>⟨i,e0,v,hi,hl,hv,h⟩
      ent:=λj e v g hj hl _ hb=>by
        rcases old j e hj with rfl | hj'
        · rw[hdead] at hl;cases hl
        · exact ⟨e,hj',hl,hb⟩
      box:=λj c hj=>by
        rcases old j _ hj with h | hj'
        · rw[<-h] at hdead;cases hdead
        · exact hj'
      gone:=λj hj=>by
        by_cases hji:i=j
        · subst hji;rw[hi] at hj;simp at hj;subst hj;cases hl
        · rw[List.getElem?_set_ne hji];exact hj
      same:=λj e hj hl'=>by
        rcases old j e hj with rfl | hj'
        · rw[hdead] at hl';cases hl'
        · exact hj'}
theorem Loose.frz {B:Base} {E:Env} {H:List Entry} {gs:List Nat} (h:Loose B E H gs) {E':Env} {H':List Entry} (k:Frz E H E' H'):Loose B E' H' gs :=
  ⟨h.nodup,λg hg=>by
    obtain ⟨a,b,c⟩:=h.free g hg;refine ⟨λhs=>?_,b,by rw[k.w];exact c⟩;rcases k.S g hs with hs | ⟨j,e,v,h1,h2,h3,h4⟩
    · exact a hs
    · exact h.apart g hg j e v h1 h2 h3 h4,
   λg hg j e v hj hl hv hb=>by
    obtain ⟨e0,h1,h2,h3⟩:=k.ent j e v g hj hl (by rw[<-k.ids];exact hv) hb;exact h.apart g hg j e0 v h1 h2 (by rw[<-k.ids];exact hv) h3⟩
def ZgV (E:Env) (H H':List Entry) (f:List Nat):Prop:=∀ g∈f,∃ (i:Nat) (e:Entry) (v:Value),H[i]?=some e/\e.live=true/\E.ids[i]?=some v/\ZeY e v g/\H'[i]?=some .gone
theorem ZgV.nil (E:Env) (H H':List Entry):ZgV E H H' []:=λg hg=>by simp at hg
theorem ZgV.append {E:Env} {H H':List Entry} {f f':List Nat} (h:ZgV E H H' f) (h':ZgV E H H' f'):ZgV E H H' (f++f'):=λg hg=>(List.mem_append.1 hg).elim (h g) (h' g)
theorem ZgV.later {E:Env} {H H1 H2:List Entry} {E1 E2:Env} {f:List Nat} (h:ZgV E H H1 f) (k:Frz E1 H1 E2 H2):ZgV E H H2 f:=λg hg=>by
  obtain ⟨i,e,v,h1,h2,h3,h4,h5⟩:=h g hg;exact ⟨i,e,v,h1,h2,h3,h4,k.gone i h5⟩
theorem ZgV.after {E:Env} {H:List Entry} {E1:Env} {H1 H2:List Entry} {f:List Nat} (k:Frz E H E1 H1) (h:ZgV E1 H1 H2 f):ZgV E H H2 f:=λg hg=>by
  obtain ⟨i,e,v,h1,h2,h3,h4,h5⟩:=h g hg;obtain ⟨e0,g1,g2,g3⟩:=k.ent i e v g h1 h2 (by rw[<-k.ids];exact h3) h4;exact ⟨i,e0,v,g1,g2,by rw[<-k.ids];exact h3,g3,h5⟩
theorem ZgV.sub {E:Env} {H H':List Entry} {f f':List Nat} (h:ZgV E H H' f) (hs:∀ g∈f',g∈f):ZgV E H H' f':=λg hg=>h g (hs g hg)
def ZjH:List Entry->List Entry->List Entry
  | [],_=>[]
  | e::r,[]=>e::r
  | e::r,e1::r1=>match e1 with
    | .gone=>.gone::ZjH r r1
    | _=>e::ZjH r r1
theorem Zi5:∀ (H H1:List Entry),(ZjH H H1).length=H.length
  | [],_=>rfl
  | _::_,[]=>rfl
  | e::r,e1::r1=>by
    unfold ZjH;split<;>simp[Zi5 r r1]
theorem Zh4:∀ (H H1:List Entry) (j:Nat) (e:Entry),(ZjH H H1)[j]?=some e->e=.gone\/(H[j]?=some e/\H1[j]?≠some .gone)
  | [],_,j,e,h=>by simp[ZjH] at h
  | e0::r,[],j,e,h=>by
    simp only[ZjH] at h;exact .inr ⟨h,by simp⟩
  | e0::r,e1::r1,j,e,h=>by
    unfold ZjH at h;split at h
    · cases j with
      | zero=>simp at h;exact .inl h.symm
      | succ j=>simpa using Zh4 r r1 j e (by simpa using h)
    · rename_i hne
      cases j with
      | zero =>
        simp at h;subst h;refine .inr ⟨rfl,λhe=>?_⟩;simp at he;exact hne he
      | succ j=>simpa using Zh4 r r1 j e (by simpa using h)
theorem ZoW {B:Base} {E E1:Env} {H H1:List Entry} {f:List Nat} (hI:Inv B E H) (k:Frz E H E1 H1) (hL:Loose B E1 H1 f) (hT:ZgV E H H1 f):Inv B E (ZjH H H1)/\Loose B E (ZjH H H1) f:=by
  refine ⟨hI.part (Zi5 H H1) (λj e hj=>(Zh4 H H1 j e hj).imp_right And.left),hL.nodup,λg hg=>?_,λg hg j e v hj hl hv hb=>?_⟩
  · obtain ⟨a,b,c⟩:=hL.free g hg
    exact ⟨λhs=>a (k.le.S g hs),b,by rw[<-k.w];exact c⟩
  · rcases Zh4 H H1 j e hj with rfl | ⟨hj',hne⟩
    · cases hl
    · obtain ⟨i,e0,u,h1,h2,h3,h4,h5⟩:=hT g hg
      have:=hI.sep j i e e0 v u g hj' h1 hl h2 hv h3 hb h4;subst this;exact hne h5
end Go.Sx
