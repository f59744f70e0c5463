/-
  Plain laws: what is reached through live links, by the queue.
-/
import Derived.Test.YtgjjlgodlhhdoaaGreatDoorLB
import Derived.Test.YtgjjlgodlhhdoaaGreatDoorLC
namespace Go.Proofs.YtgjjlgodlhhdoaaGreatDoor
set_option linter.unusedVariables false
set_option linter.unusedSimpArgs false
open Go Go.Sx
def Live (L:List Zm) (lv:List Bool) (a c:Int):Prop:=∃ (k:Nat) (l:Zm),L[k]?=some l/\lv[k]?=some true/\Zm.From l=a/\Zm.To l=c
inductive Rch (L:List Zm) (lv:List Bool) (S:Int->Prop):Int->Prop
 | base {a:Int}:S a->Rch L lv S a
 | step {a c:Int}:Rch L lv S a->Live L lv a c->Rch L lv S c
theorem Rch.sub {L:List Zm} {lv:List Bool} {S T:Int->Prop} (h0:∀ a,S a->T a) (h1:∀ a c,T a->Live L lv a c->T c) {a:Int} (h:Rch L lv S a):T a:=by
 induction h with
 | base h=>exact h0 _ h
 | step _ hl ih=>exact h1 _ _ ih hl
theorem Rch.mono {L:List Zm} {lv:List Bool} {S T:Int->Prop} (h0:∀ a,S a->T a) {a:Int} (h:Rch L lv S a):Rch L lv T a:=h.sub (λa ha=>.base (h0 a ha)) (λa c ha hl=>.step ha hl)
def InN (N:Nat) (L:List Zm):Prop:=∀ l∈L,(0<=Zm.From l/\Zm.From l<(N:Int))/\(0<=Zm.To l/\Zm.To l<(N:Int))
def cf (l:List Bool):Nat:=l.countP (λb=>!b)
theorem ZuS:∀ (l:List Bool) (i:Nat),l[i]?=some false->cf (l.set i true)+1=cf l
 | [],_,h=>by simp at h
 | b::l,0,h=>by simp at h;subst h;simp[cf]
 | b::l,i+1,h=>by
  have:=ZuS l i (by simpa using h);unfold cf at this ⊢;simp only[List.set_cons_succ,List.countP_cons];omega
theorem bat {l:List Bool} {i:Int} {b:Bool} (h:atI l i=some b) (h0:0<=i):l[i.toNat]?=some b:=by
 unfold atI at h;rw[if_pos h0] at h;exact h
theorem Zw6 {l:List Bool} {i:Nat} (a:Nat) (h:l[a]?=some true):(l.set i true)[a]?=some true:=by
 rw[List.getElem?_set];split
 ·have:=(List.getElem?_eq_some_iff.1 h).1
  rw[if_pos (by omega)]
 ·exact h
def Closed (L:List Zm) (lv:List Bool) (k:Nat) (s:List Bool):Prop:=∀ (j:Nat) (l:Zm),j<k->L[j]?=some l->lv[j]?=some true->s[(Zm.From l).toNat]?=some true->s[(Zm.To l).toNat]?=some true
structure Zxv (N:Nat) (L:List Zm) (lv:List Bool) (S:Int->Prop) (k:Nat) (s0:List Bool) (ch:Bool) (s:List Bool):Prop where
 len:s.length=N
 snd:∀ a:Nat,s[a]?=some true->Rch L lv S (a:Int)
 up:∀ a:Nat,s0[a]?=some true->s[a]?=some true
 still:ch=false->s=s0/\Closed L lv k s0
 less:cf s+(if ch=true then 1 else 0)<=cf s0
theorem round_eq {N:Nat} {L:List Zm} {lv:List Bool} {S:Int->Prop} (hL:InN N L) (hLs:L.length<=6000) (hlv:lv.length=L.length) {s0:List Bool} (h0:s0.length=N) (hs0:∀ a:Nat,s0[a]?=some true->Rch L lv S (a:Int)) :
  ∃ ch s,Zp (λv=>Xe L lv true v.1 v.2.1 v.2.2.1) (false,(0:Int),s0,())=some (.inl (ch,s,()))/\Zxv N L lv S L.length s0 ch s:=by
 obtain ⟨r,h1,ch,s,rfl,h3⟩:=Zgq (l:=L) (ρ:=(Bool×List Bool×Unit) ⊕ List Bool) (step:=λv=>Xe L lv true v.1 v.2.1 v.2.2.1) (v:=(false,(0:Int),s0,()))
  (λk v=>v.2.1=(k:Int)/\Zxv N L lv S k s0 v.1 v.2.2.1) (λr=>∃ ch s,r=.inl (ch,s,())/\Zxv N L lv S L.length s0 ch s)
  ⟨rfl,h0,hs0,λa h=>h,λ_=>⟨rfl,λj l hj=>by omega⟩,by simp⟩
  (by
   rintro k l ⟨ch,i,s,⟨⟩⟩ hl hk ⟨hi,hR⟩;simp only at hi hR;subst hi;have hlb:=hL l (List.mem_of_getElem? hl);have hsl:=hR.len;have hlv1:lv[k]?=some lv[k]:=List.getElem?_eq_getElem (by omega);generalize lv[k]=bl at hlv1;obtain ⟨x3,hx3,_⟩:=Zfm (l:=s) hlb.1.1 (by omega);obtain ⟨x4,hx4,_⟩:=Zfm (l:=s) hlb.2.1 (by omega);have hb3:=bat hx3 hlb.1.1;have hb4:=bat hx4 hlb.2.1;simp only[Xe,show (k:Int)<(L.length:Int) from by omega,if_true,Zo,hl,hlv1,hx3,hx4,Bq];have keep:(bl=true->x3=true->x4=true)->Zxv N L lv S (k+1) s0 ch s:=λhcl=>⟨hR.len,hR.snd,hR.up,λhch=>by
    obtain ⟨e1,e2⟩:=hR.still hch;refine ⟨e1,λj l' hj hl' hlv' hfr=>?_⟩;by_cases hjk:j=k
    ·subst hjk
     rw[hl] at hl';injection hl' with hl';subst hl'
     rw[hlv1] at hlv';injection hlv' with hlv'
     subst e1;rw[hb3] at hfr;injection hfr with hfr
     rw[hb4,hcl hlv' hfr]
    ·exact e2 j l' (by omega) hl' hlv' hfr,hR.less⟩
   by_cases hbl:bl=true
   ·subst hbl
    by_cases h3:x3=true
    ·subst h3
     by_cases h4:x4=true
     ·subst h4
      simp only[if_true];exact ⟨_,rfl,by simp only;rw[Y8 (by omega)],keep (λ_ _=>rfl)⟩
     ·have h4f:x4=false:=by simpa using h4
      subst h4f;simp only[if_true,Bool.false_eq_true,if_false];have hcf:=ZuS s (Zm.To l).toNat hb4;have hless:=hR.less;refine ⟨_,rfl,by simp only;rw[Y8 (by omega)],by simp[hsl],λa ha=>?_,λa ha=>Zw6 a (hR.up a ha),λh=>(by cases h),?_⟩
      ·simp only at ha
       rw[List.getElem?_set] at ha;split at ha
       ·rename_i e
        rw[<-e,show (((Zm.To l).toNat:Nat):Int)=Zm.To l by omega];have hfr:=hR.snd _ hb3;rw[show (((Zm.From l).toNat:Nat):Int)=Zm.From l by omega] at hfr;exact .step hfr ⟨k,l,hl,hlv1,rfl,rfl⟩
       ·exact hR.snd a ha
      ·simp only[if_true]
       have:(if ch=true then 1 else 0)<=1:=by split<;>omega
       omega
    ·have h3f:x3=false:=by simpa using h3
     subst h3f;simp only[if_true,Bool.false_eq_true,if_false];exact ⟨_,rfl,by simp only;rw[Y8 (by omega)],keep (λ_ h=>by cases h)⟩
   ·have hblf:bl=false:=by simpa using hbl
    subst hblf;simp only[if_true,Bool.false_eq_true,if_false];exact ⟨_,rfl,by simp only;rw[Y8 (by omega)],keep (λh=>by cases h)⟩)
  (by
   rintro ⟨ch,i,s,⟨⟩⟩ ⟨hi,hR⟩;simp only at hi hR;subst hi;simp only[Xe,Int.lt_irrefl,if_false];exact ⟨_,rfl,ch,s,rfl,hR⟩)
 exact ⟨ch,s,h1,h3⟩
theorem Zl3 {N:Nat} {L:List Zm} {lv:List Bool} (hNs:N<=1000) (hL:InN N L) (hLs:L.length<=6000) (hlv:lv.length=L.length) {node:Int} (hn:0<=node/\node<(N:Int)) :
  ∃ r,VO (N:Int) L lv node true=some r/\r.length=N/\∀ (a:Nat) (b:Bool),r[a]?=some b->(b=true<->Rch L lv (λa=>a=node) (a:Int)):=by
 unfold VO;obtain ⟨x,hx,_⟩:=Zfm (l:=List.replicate (Int.toNat (N:Int)) false) hn.1 (by simp;exact hn.2);rw[Zn (by omega),Zn (by omega),Zn (by omega),Zn (by omega),hx,Bq];have hnn:((node.toNat:Nat):Int)=node:=by omega
 have:=Zee (σ:=Bool×List Bool×Unit) (ρ:=List Bool) (step:=λv=>Qm L lv true v.1 v.2.1)
  (λv=>v.2.1.length=N/\(∀ a:Nat,v.2.1[a]?=some true->Rch L lv (λa=>a=node) (a:Int))/\v.2.1[node.toNat]?=some true/\(v.1=false->Closed L lv L.length v.2.1))
  (λv=>2*cf v.2.1+(if v.1=true then 1 else 0))
  (λr=>r.length=N/\∀ (a:Nat) (b:Bool),r[a]?=some b->(b=true<->Rch L lv (λa=>a=node) (a:Int)))
  (v:=(true,List.set (List.replicate (Int.toNat (N:Int)) false) (Int.toNat node) true,()))
  ⟨by simp,λa ha=>(by
   simp only at ha;rw[List.getElem?_set] at ha;split at ha
   ·rename_i e;rw[<-e];exact .base hnn
   ·rw[List.getElem?_replicate] at ha
    split at ha
    ·cases ha
    ·cases ha),(by simp only;rw[List.getElem?_set_self (by simp;omega)]),λh=>(by cases h)⟩
  (by
   rintro ⟨ch,s,⟨⟩⟩ ⟨e1,e2,e3,e4⟩;simp only at e1 e2 e3 e4;simp only[Qm];by_cases hc:ch=true
   ·rw[if_pos hc]
    obtain ⟨ch',s',h1,hR⟩:=round_eq hL hLs hlv e1 e2;rw[h1];refine .inl ⟨_,rfl,⟨hR.len,hR.snd,hR.up _ e3,λh=>?_⟩,?_⟩
    ·obtain ⟨e,hcl⟩:=hR.still h
     simp only;rw[e];exact hcl
    ·have hless:=hR.less
     simp only[hc,if_true];by_cases hc':ch'=true
     ·simp only[hc',if_true] at hless ⊢;omega
     ·simp only[hc',if_false] at hless ⊢;omega
   ·rw[if_neg hc]
    have hcl:=e4 (by simpa using hc);refine .inr ⟨s,rfl,e1,λa b hb=>?_⟩;constructor
    ·intro h;subst h;exact e2 a hb
    ·intro h
     have hall:∀ c:Int,Rch L lv (λa=>a=node) c->(0<=c/\s[c.toNat]?=some true):=by
      intro c hc;refine hc.sub (T:=λc=>0<=c/\s[c.toNat]?=some true) (λa ha=>by subst ha;exact ⟨hn.1,e3⟩) (λa c ha hl=>?_);obtain ⟨k,l,h1,h2,h3,h4⟩:=hl;have hb2:=hL l (List.mem_of_getElem? h1);refine ⟨by omega,?_⟩;rw[<-h4];exact hcl k l (List.getElem?_eq_some_iff.1 h1).1 h1 h2 (by rw[h3];exact ha.2)
     have:=(hall (a:Int) h).2;rw[Int.toNat_natCast,hb] at this;injection this)
 exact this
def ZgN (L:List Zm):List Zm:=L.map (λl=>(Zm.To l,Zm.From l,Zm.Kind l,l.2.2.2))
theorem Zmr (L:List Zm):(ZgN L).length=L.length:=List.length_map ..
theorem Zvm {α β:Type} (f:α->β) (l:List α) (i:Int):atI (l.map f) i=(atI l i).map f:=by
 unfold atI;split
 ·rw[List.getElem?_map]
 ·rfl
theorem ZqV (n node:Int) (L:List Zm) (lv:List Bool):VO n L lv node false=VO n (ZgN L) lv node true:=by
 have e0:∀ (ch:Bool) (k:Int) (l1:List Bool),Xe L lv false ch k l1=Xe (ZgN L) lv true ch k l1:=by
  intro ch k l1;unfold Xe;rw[Zmr];by_cases h:k<(L.length:Int)
  ·rw[if_pos h,if_pos h]
   unfold ZgN;rw[Zvm];cases atI L k with
   | none=>rfl
   | some x=>rfl
  ·rw[if_neg h,if_neg h]
 have e1:∀ (ch:Bool) (l0:List Bool),Qm L lv false ch l0=Qm (ZgN L) lv true ch l0:=by
  intro ch l0;unfold Qm;simp only[e0]
 unfold VO;simp only[e1]
theorem Zse {L:List Zm} {lv:List Bool} {a c:Int} (h:Live (ZgN L) lv a c):Live L lv c a:=by
 obtain ⟨k,l,h1,h2,h3,h4⟩:=h;unfold ZgN at h1;rw[List.getElem?_map,Option.map_eq_some_iff] at h1;obtain ⟨x,hx,rfl⟩:=h1;exact ⟨k,x,hx,h2,h4,h3⟩
theorem ZqE {L:List Zm} {lv:List Bool} {a c:Int} (h:Live L lv c a):Live (ZgN L) lv a c:=by
 obtain ⟨k,l,h1,h2,h3,h4⟩:=h;exact ⟨k,_,by unfold ZgN;rw[List.getElem?_map,h1];rfl,h2,h4,h3⟩
theorem ZtK {N:Nat} {L:List Zm} (h:InN N L):InN N (ZgN L):=λl hl=>by
 unfold ZgN at hl;obtain ⟨x,hx,rfl⟩:=List.mem_map.1 hl;exact ⟨(h x hx).2,(h x hx).1⟩
structure Scc (N:Nat) (L:List Zm) (lv:List Bool) (v:Int) (m:List Int):Prop where
 mem:∀ c,c∈m<->((0<=c/\c<(N:Int))/\Rch L lv (λa=>a=v) c/\Rch (ZgN L) lv (λa=>a=v) c)
 nod:m.Nodup
 len:m.length<=N
 more:1<m.length\/∃ (k:Nat) (l:Zm),L[k]?=some l/\lv[k]?=some true/\Zm.From l=v/\Zm.To l=v
 v0:0<=v/\v<(N:Int)
theorem ZoR (v:Int):∀ {m:List Int},m.Nodup->1<m.length->∃ a,a∈m/\a≠v
 | [],_,h=>by simp at h
 | [_],_,h=>by simp at h
 | a::b::r,hn,_=>by
  by_cases q:a=v
  ·refine ⟨b,by simp,λe=>?_⟩
   rw[List.nodup_cons] at hn;exact hn.1 (by rw[q,<-e];simp)
  ·exact ⟨a,by simp,q⟩
theorem Scc.cell {N:Nat} {L:List Zm} {lv:List Bool} {v:Int} {m:List Int} (h:Scc N L lv v m) {D:Int->Prop} (hL:InN N L) (hD:∀ l∈L,Zm.Kind l=1\/(D (Zm.From l)/\¬D (Zm.To l))) :
  ∃ (k:Nat) (l:Zm),L[k]?=some l/\lv[k]?=some true/\Zm.Kind l=1/\Zm.From l∈m/\Zm.To l∈m:=by
 apply Classical.byContradiction;intro hno;have key:∀ (a c:Int),Live L lv a c->a∈m->c∈m->D a/\¬D c:=by
  rintro a c ⟨k,l,h1,h2,rfl,rfl⟩ ha hc;rcases hD l (List.mem_of_getElem? h1) with q | q
  ·exact absurd ⟨k,l,h1,h2,q,ha,hc⟩ hno
  ·exact q
 have inn:∀ {a c:Int},Live L lv a c->(0<=a/\a<(N:Int))/\(0<=c/\c<(N:Int)):=by
  rintro a c ⟨k,l,h1,h2,rfl,rfl⟩;exact hL l (List.mem_of_getElem? h1)
 have hv:v∈m:=(h.mem v).2 ⟨h.v0,.base rfl,.base rfl⟩;rcases h.more with hm | ⟨k,l,h1,h2,h3,h4⟩
 ·obtain ⟨a,ha,hav⟩:=ZoR v h.nod hm
  obtain ⟨_,ra,rb⟩:=(h.mem a).1 ha;have ra0:=ra;have rb0:=rb;cases ra with
  | base q=>exact hav q
  | @step c _ rc hl =>
   have hc:c∈m:=(h.mem c).2 ⟨(inn hl).1,rc,rb0.step (ZqE hl)⟩;have k1:=key _ _ hl hc ha;cases rb with
   | base q=>exact hav q
   | @step c' _ rc' hl' =>
    have hl'':=Zse hl';have hc':c'∈m:=(h.mem c').2 ⟨(inn hl'').2,ra0.step hl'',rc'⟩;exact k1.2 (key _ _ hl'' ha hc').1
 ·have:=key v v ⟨k,l,h1,h2,h3,h4⟩ hv hv
  exact this.2 this.1
theorem ZsJ {L:List Zm} {lv:List Bool} (hLs:L.length<=6000) (hlv:lv.length=L.length) (v:Int):Gets (ZeU L lv v) (λr=>r=true->∃ (k:Nat) (l:Zm),L[k]?=some l/\lv[k]?=some true/\Zm.From l=v/\Zm.To l=v):=by
 unfold ZeU;refine Gets.loop (λs=>0<=s.1/\s.1<=6000) (λs=>(6000-s.1).toNat) ⟨Int.le_refl _,by dsimp only;omega⟩ ?_;rintro ⟨k,⟨⟩⟩ ⟨k0,k1⟩;dsimp only at k0 k1;show Gets (ZcS L lv v k) _;unfold ZcS;have en:Wq (k+1)=k+1:=YI (by omega) (by omega);simp only[en];refine Gets.ite (λhk=>?_) (λ_=>.ret (show false=true->_ from λq=>by cases q));refine .at k0 (by omega) λx hx hx2=>?_;refine Gets.ite (λhxt=>?_) (λ_=>.ret ⟨⟨by dsimp only;omega,by dsimp only;omega⟩,by dsimp only;omega⟩);refine .at k0 hk λl hl hl2=>?_;refine Gets.ite (λh1=>?_) (λ_=>.ret ⟨⟨by dsimp only;omega,by dsimp only;omega⟩,by dsimp only;omega⟩);refine Gets.ite (λh2=>?_) (λ_=>.ret ⟨⟨by dsimp only;omega,by dsimp only;omega⟩,by dsimp only;omega⟩);exact .ret (show true=true->_ from λ_=>⟨k.toNat,l,hl2,by rw[hx2,hxt],h1,h2⟩)
theorem ZqL {N:Nat} {L:List Zm} {lv:List Bool} (hNs:N<=1000) (hL:InN N L) (hLs:L.length<=6000) (hlv:lv.length=L.length):Gets (Zd7 (N:Int) L lv) (λr=>∀ m∈r,∃ v,Scc N L lv v m):=by
 unfold Zd7;refine .guard (by omega) (.guard (Int.le_refl _) (.guard (by omega) (.guard (by omega) ?_)));refine Gets.loop (λs=>0<=s.2.1/\s.2.1<=(N:Int)/\(s.1.length:Int)<=s.2.1/\(∀ m∈s.1,∃ v,Scc N L lv v m)/\s.2.2.1.length=N) (λs=>((N:Int)-s.2.1).toNat) ⟨Int.le_refl _,by dsimp only;omega,by dsimp only[List.length_nil];omega,λm hm=>(by cases hm),by simp⟩ ?_;rintro ⟨out,v,l0,⟨⟩⟩ ⟨i0,i1,i2,i3,i4⟩;dsimp only at i0 i1 i2 i3 i4;show Gets (Zb0 (N:Int) L lv out v l0) _;unfold Zb0;have en:Wq (v+1)=v+1:=YI (by omega) (by omega);refine Gets.ite (λhv=>?_) (λ_=>.ret (show ∀ m∈out,_ from i3));refine .at i0 (by omega) λx hx _=>?_;refine Gets.ite (λ_=>?_) (λ_=>?_)
 ·rw[en]
  exact .ret ⟨⟨by dsimp only;omega,by dsimp only;omega,by dsimp only;omega,i3,i4⟩,by dsimp only;omega⟩
 obtain ⟨r0,e0,l0',h0⟩:=Zl3 hNs hL hLs hlv (node:=v) ⟨i0,hv⟩;obtain ⟨r1,e1,l1',h1⟩:=Zl3 (L:=ZgN L) hNs (ZtK hL) (by rw[Zmr];exact hLs) (by rw[Zmr];exact hlv) (node:=v) ⟨i0,hv⟩;rw[<-ZqV] at e1;rw[e0,Bq,e1,Bq];refine Gets.loop (λs=>0<=s.2.1/\s.2.1<=(N:Int)/\(s.1.length:Int)<=s.2.1/\s.1.Nodup/\s.2.2.1.length=N/\∀ c,c∈s.1<->((0<=c/\c<s.2.1)/\Rch L lv (λa=>a=v) c/\Rch (ZgN L) lv (λa=>a=v) c)) (λs=>((N:Int)-s.2.1).toNat)
  ⟨Int.le_refl _,by dsimp only;omega,by dsimp only[List.length_nil];omega,List.nodup_nil,i4,λc=>⟨λh=>(by cases h),λh=>by dsimp only at h;omega⟩⟩ ?_
 rintro ⟨m,k,l,⟨⟩⟩ ⟨j0,j1,j2,j3,j4,j5⟩;dsimp only at j0 j1 j2 j3 j4 j5;show Gets (ZbZ (N:Int) L lv out v r0 r1 m k l) _;unfold ZbZ;have ek:Wq (k+1)=k+1:=YI (by omega) (by omega);simp only[ek,en];refine Gets.ite (λhk=>?_) (λhk=>?_)
 ·refine .at j0 (by omega) λx hx hx2=>?_
  have hk3:((k.toNat:Nat):Int)=k:=by omega
  have a0:=h0 k.toNat x hx2;rw[hk3] at a0;have skip:(¬(Rch L lv (λa=>a=v) k/\Rch (ZgN L) lv (λa=>a=v) k))->∀ c,c∈m<->((0<=c/\c<k+1)/\Rch L lv (λa=>a=v) c/\Rch (ZgN L) lv (λa=>a=v) c):=λhn c=>by
   rw[j5 c];constructor
   ·rintro ⟨q1,q2⟩
    exact ⟨by omega,q2⟩
   ·rintro ⟨q1,q2⟩
    by_cases e:c=k
    ·subst e;exact absurd q2 hn
    ·exact ⟨by omega,q2⟩
  refine Gets.ite (λhxt=>?_) (λhxf=>?_)
  ·refine .at j0 (by omega) λy hy hy2=>?_
   have a1:=h1 k.toNat y hy2;rw[hk3] at a1;refine Gets.ite (λhyt=>?_) (λhyf=>?_)
   ·refine .guard (by simp only[List.length_cons,List.length_nil];omega) ?_
    refine .at j0 (by omega) λ_ _ _=>?_;refine .ret ⟨⟨by dsimp only;omega,by dsimp only;omega,by dsimp only;simp only[List.length_append,List.length_cons,List.length_nil];omega,?_,by dsimp only;rw[List.length_set];exact j4,λc=>?_⟩,by dsimp only;omega⟩
    ·dsimp only
     rw[List.nodup_append];refine ⟨j3,by simp,λa ha b hb=>?_⟩;rw[List.mem_singleton] at hb;have:=((j5 a).1 ha).1;omega
    ·dsimp only
     rw[List.mem_append,List.mem_singleton,j5 c];constructor
     ·rintro (⟨q1,q2⟩ | rfl)
      ·exact ⟨by omega,q2⟩
      ·exact ⟨by omega,a0.1 hxt,a1.1 hyt⟩
     ·rintro ⟨q1,q2⟩
      by_cases e:c=k
      ·exact .inr e
      ·exact .inl ⟨by omega,q2⟩
   ·exact .ret ⟨⟨by dsimp only;omega,by dsimp only;omega,by dsimp only;omega,j3,j4,skip λq=>hyf (a1.2 q.2)⟩,by dsimp only;omega⟩
  ·exact .ret ⟨⟨by dsimp only;omega,by dsimp only;omega,by dsimp only;omega,j3,j4,skip λq=>hxf (a0.2 q.1)⟩,by dsimp only;omega⟩
 ·have hkN:k=(N:Int):=by omega
  have hS:(1<m.length\/∃ (k:Nat) (l:Zm),L[k]?=some l/\lv[k]?=some true/\Zm.From l=v/\Zm.To l=v)->Scc N L lv v m:=λhm=>⟨λc=>by rw[j5 c,hkN],j3,by omega,hm,⟨i0,hv⟩⟩;refine Gets.ite (λh1=>?_) (λ_=>?_)
  ·refine .guard (by simp only[List.length_cons,List.length_nil];omega) (.ret ⟨⟨by dsimp only;omega,by dsimp only;omega,by dsimp only;simp only[List.length_append,List.length_cons,List.length_nil];omega,Zdg i3 ⟨v,hS (.inl (by omega))⟩,j4⟩,by dsimp only;omega⟩)
  ·refine (ZsJ hLs hlv v).bind λq hq=>?_
   refine Gets.ite (λhqt=>?_) (λ_=>?_)
   ·exact .guard (by simp only[List.length_cons,List.length_nil];omega) (.ret ⟨⟨by dsimp only;omega,by dsimp only;omega,by dsimp only;simp only[List.length_append,List.length_cons,List.length_nil];omega,Zdg i3 ⟨v,hS (.inr (hq hqt))⟩,j4⟩,by dsimp only;omega⟩)
   ·exact .ret ⟨⟨by dsimp only;omega,by dsimp only;omega,by dsimp only;omega,i3,j4⟩,by dsimp only;omega⟩
def Drv (b:Zc) (a:Int):Prop:=∃ p,(places (Zc.Design b))[(a / 2).toNat]?=some p/\p.2.2.2.1=true
theorem ZqC {b:Zc} (h:XT b):∀ l∈Zr b,Zm.Kind l=1\/(Drv b (Zm.From l)/\¬Drv b (Zm.To l)):=by
 intro l hl;unfold Zr at hl;rcases List.mem_append.1 hl with hl | hl
 ·left
  obtain ⟨i,x,hi,hx⟩:=XU.1 hl;unfold Ziw at hx;split at hx
  ·obtain ⟨k,a,ha,hla⟩:=XU.1 hx
   unfold Zj2 at hla;obtain ⟨p,hp,rfl⟩:=List.mem_map.1 hla;rfl
  ·cases hx
 ·right
  obtain ⟨v,w,hw,hx⟩:=XU.1 hl;rw[Nat.zero_add] at hx;have hv:v<(Zd.YQ (Zc.Design b)).length:=by
   have:=(List.getElem?_eq_some_iff.1 hw).1;have:=h.ok.2.1;omega
  obtain ⟨q,y,hy,hyd,hq,_⟩:=Zpp h.ok.1 (Zhp h.sm).2.1 hv;obtain ⟨j,s,hs,hls⟩:=XU.1 hx;have hsk:=List.mem_of_getElem? hs;unfold sinks at hsk;obtain ⟨k,x,hk,hsx⟩:=XU.1 hsk;have hs2:s=(k:Int)/\¬x.2.2.2.1=true:=by
   unfold ZdM at hsx;split at hsx
   ·split at hsx
    ·cases hsx
    ·rename_i q2
     simp only[List.mem_singleton] at hsx;exact ⟨by omega,q2⟩
   ·cases hsx
  have hdy:y.2.2.2.1=true:=by
   unfold Zpo at hyd;rw[Bool.and_eq_true] at hyd;exact hyd.2
  have two:∀ c:Int,c=0\/c=1->Drv b (2*Zfs (Zc.Design b) (v:Int)+c)/\¬Drv b (2*s+c):=λc hc=>by
   refine ⟨⟨y,?_,hdy⟩,λhd=>?_⟩
   ·rw[hq,show ((2*(q:Int)+c) / 2).toNat=q by omega]
    exact hy
   ·obtain ⟨p,hp,hpd⟩:=hd
    rw[hs2.1,show ((2*(k:Int)+c) / 2).toNat=k by omega,hk] at hp;injection hp with hp
    subst hp;exact hs2.2 hpd
  simp only[List.mem_cons,List.not_mem_nil,or_false] at hls;rcases hls with rfl | rfl
  ·exact two 0 (.inl rfl)
  ·exact two 1 (.inr rfl)
theorem ZkC {d:Zc} (hf:Few (Zc.Design d)):Y6 d=some ((2*(places (Zc.Design d)).length:Nat):Int):=by
 have hpl:=YK hf;unfold Y6;rw[YW _ hf,Bq,YI (by omega) (by omega)];congr 1
def ct (l:List Bool):Nat:=l.countP (λb=>b)
theorem ZuT:∀ (l:List Bool) (i:Nat),l[i]?=some true->ct (l.set i false)+1=ct l
 | [],_,h=>by simp at h
 | b::l,0,h=>by simp at h;subst h;simp[ct]
 | b::l,i+1,h=>by
  have:=ZuT l i (by simpa using h);unfold ct at this ⊢;simp only[List.set_cons_succ,List.countP_cons];omega
def Found (L:List Zm) (lv:List Bool) (m:List Int) (k v:Int):Prop :=
 (v=-1/\∀ (j:Nat) (l:Zm),(j:Int)<k->L[j]?=some l->lv[j]?=some true->Zm.Kind l=1->Zm.From l∈m->Zm.To l∈m->False)\/(0<=v/\v<(lv.length:Int)/\lv[v.toNat]?=some true)
theorem Found.stay {L:List Zm} {lv:List Bool} {m:List Int} {k v:Int} (h:Found L lv m k v) (h0:0<=k) (hn:∀ l,L[k.toNat]?=some l->lv[k.toNat]?=some true->Zm.Kind l=1->Zm.From l∈m->Zm.To l∈m->False):Found L lv m (k+1) v:=by
 rcases h with ⟨e,h⟩ | h
 ·refine .inl ⟨e,λj l hj hl=>?_⟩
  by_cases q:(j:Int)<k
  ·exact h j l q hl
  ·have:j=k.toNat:=by omega
   subst this;exact hn l hl
 ·exact .inr h
theorem Zqp {b:Zc} (h:XT b):Gets (ZaZ b) (λr=>r.length<=6000):=by
 have hLs:=XH h;have hf:=h.ok.1.few;have hpl:=YK hf;have hIn:InN (2*(places (Zc.Design b)).length) (Zr b):=λl hl=>by
  have:=ZdW h hl;omega
 unfold ZaZ;rw[Vq h,Bq,ZcQ _ _ hLs (by simp),Bq,ZkC hf,Bq];refine Gets.loop (λs=>s.1.length=(Zr b).length) (λs=>ct s.1) (Zfa _ _) ?_;rintro ⟨lv,⟨⟩⟩ hl;dsimp only at hl;show Gets (ZbY (Zr b) ((2*(places (Zc.Design b)).length:Nat):Int) lv) _;unfold ZbY;refine (ZqL (by omega) hIn hLs hl).bind λloops hS=>?_;refine Gets.ite (λh0=>?_) (λh0=>?_)
 ·refine Gets.loop (λs=>0<=s.2.1/\s.2.1<=6000/\(s.1.length:Int)<=s.2.1) (λs=>(6000-s.2.1).toNat) ⟨Int.le_refl _,by dsimp only;omega,by dsimp only[List.length_nil];omega⟩ ?_
  rintro ⟨out,k,⟨⟩⟩ ⟨i0,i1,i2⟩;dsimp only at i0 i1 i2;show Gets (ZbW lv out k) _;unfold ZbW;have en:Wq (k+1)=k+1:=YI (by omega) (by omega);simp only[en];refine Gets.ite (λhk=>?_) (λ_=>.ret (show out.length<=6000 by omega));refine .at i0 hk λx _ _=>Gets.ite (λ_=>?_) (λ_=>?_)
  ·exact .ret ⟨⟨by dsimp only;omega,by dsimp only;omega,by dsimp only;omega⟩,by dsimp only;omega⟩
  ·exact .guard (by simp only[List.length_cons,List.length_nil];omega) (.ret ⟨⟨by dsimp only;omega,by dsimp only;omega,by dsimp only;simp only[List.length_append,List.length_cons,List.length_nil];omega⟩,by dsimp only;omega⟩)
 ·match loops,h0,hS with
  | [],h0,_=>exact absurd rfl h0
  | m::r,_,hS =>
   obtain ⟨v,hScc⟩:=hS m (by simp);obtain ⟨kk,ll,c1,c2,c3,c4,c5⟩:=hScc.cell hIn (ZqC h);have hml:=hScc.len;refine Gets.loop (λs=>0<=s.2.1/\s.2.1<=((Zr b).length:Int)/\s.2.2.1=m::r/\Found (Zr b) lv m s.2.1 s.1) (λs=>(((Zr b).length:Int)-s.2.1).toNat)
    ⟨Int.le_refl _,by dsimp only;omega,rfl,.inl ⟨rfl,λj l hj=>by dsimp only at hj;omega⟩⟩ ?_
   rintro ⟨w,k,l1,⟨⟩⟩ ⟨i0,i1,i2,i3⟩;dsimp only at i0 i1 i2 i3;subst i2;show Gets (ZbX (Zr b) lv w k (m::r)) _;unfold ZbX;have en:Wq (k+1)=k+1:=YI (by omega) (by omega);simp only[en];refine Gets.ite (λhk=>?_) (λhk=>?_)
   ·refine .at i0 (by omega) λx hx hx2=>?_
    refine Gets.ite (λhxt=>?_) (λhxf=>?_)
    ·refine .at i0 hk λl hl hl2=>?_
     have stay:¬(Zm.Kind l=1/\Zm.From l∈m/\Zm.To l∈m)->Found (Zr b) lv m (k+1) w:=λhn=>i3.stay i0 λl' e1 _ q1 q2 q3=>by
      rw[hl2] at e1;injection e1 with e1
      subst e1;exact hn ⟨q1,q2,q3⟩
     refine Gets.ite (λhkind=>?_) (λhkind=>?_)
     ·rw[show atI (m::r) (0:Int)=some m from rfl,Bq,Ze5 _ _ (by omega),Bq]
      refine Gets.ite (λq1=>?_) (λq1=>?_)
      ·rw[Ze5 _ _ (by omega),Bq]
       refine Gets.ite (λq2=>?_) (λq2=>?_)
       ·exact .ret ⟨⟨by dsimp only;omega,by dsimp only;omega,rfl,.inr ⟨i0,by omega,by dsimp only;rw[hx2,hxt]⟩⟩,by dsimp only;omega⟩
       ·exact .ret ⟨⟨by dsimp only;omega,by dsimp only;omega,rfl,stay λq=>q2 (decide_eq_true q.2.2)⟩,by dsimp only;omega⟩
      ·exact .ret ⟨⟨by dsimp only;omega,by dsimp only;omega,rfl,stay λq=>q1 (decide_eq_true q.2.1)⟩,by dsimp only;omega⟩
     ·exact .ret ⟨⟨by dsimp only;omega,by dsimp only;omega,rfl,stay λq=>hkind q.1⟩,by dsimp only;omega⟩
    ·exact .ret ⟨⟨by dsimp only;omega,by dsimp only;omega,rfl,i3.stay i0 λl' _ e2 _ _ _=>by
      rw[hx2] at e2;injection e2 with e2
      exact hxf e2⟩,by dsimp only;omega⟩
   ·have hkk:=(List.getElem?_eq_some_iff.1 c1).1
    rcases i3 with ⟨_,q⟩ | ⟨q0,q1,q2⟩
    ·exact (q kk ll (by omega) c1 c2 c3 c4 c5).elim
    ·refine .at q0 q1 λx _ _=>?_
     have:=ZuT lv w.toNat q2;refine .ret ⟨?_,?_⟩
     ·show (List.set lv (Int.toNat w) false).length=_
      rw[List.length_set];exact hl
     ·show ct (List.set lv (Int.toNat w) false)<ct lv
      omega
def Zvh (b:Zc):Prop:=Zx5 b/\Few (Zc.Design b)
theorem Zwv.f {b:Zc} (h:Zwv b):Zvh b:=⟨⟨h.sm,λ_ _=>h.des.dn⟩,h.des.few⟩
theorem Zlf {s:Zf} (hs:Src s):Gets (ZaY s) (λr=>Zvh r.1/\Src r.2):=by
 unfold ZaY;have bl:∀ {t:Zf} (wild:Bool),Src t->Gets ((QT t (6:Int) wild).bind λl07Draw0=>some (l07Draw0.fst,l07Draw0.snd)) (λr:Zc×Zf=>Zvh r.1/\Src r.2):=λwild ht =>
  (Zif ht (most:=6) (by omega) (by omega) wild).bind λr ⟨h,h1⟩=>.ret ⟨h.f,h1⟩
 refine (Zz hs 12).bind λr0 ⟨_,h0⟩=>?_;refine Gets.ite (λ_=>?_) (λ_=>?_)
 ·exact (Zql h0).bind λr ⟨h,h1⟩=>.ret ⟨h,h1⟩
 ·exact Gets.ite (λ_=>Gets.ite (λ_=>bl _ h0) (λ_=>bl _ h0)) (λ_=>Gets.ite (λ_=>bl _ h0) (λ_=>bl _ h0))
theorem Zop {s:Zf} (hs:Src s) {b:Zc} (hb:sm YC b):Gets (QA s b) (λr=>r.1.length<=7000/\Src r.2):=by
 unfold QA;rw[Va b hb,Bq];refine Gets.ite (λhB=>?_) (λ_=>.ret ⟨by simp,hs⟩);have h:XT b:=⟨(YH _).1 hB,hb⟩;have hLs:=XH h;refine (Zz hs 3).bind λr0 ⟨_,h0⟩=>?_;refine Gets.ite (λ_=>.ret ⟨by simp,h0⟩) (λ_=>?_);rw[Vq h,Bq];refine (Zz h0 8).bind λr1 ⟨⟨a0,a1⟩,h1⟩=>?_;have e1:Wq (1+r1.1)=1+r1.1:=YI (by omega) (by omega);rw[e1];refine (Zz h1 _).bind λr2 ⟨⟨b0,b1⟩,h2⟩=>?_;refine Gets.loop (λv=>0<=v.2.1/\v.2.1<=6100/\(v.1.length:Int)<=v.2.1/\Src (v.2.2.1,v.2.2.2.1,v.2.2.2.2.1,())) (λv=>(6200-v.2.1).toNat) ⟨b0,by dsimp only;omega,by dsimp only[List.length_nil];omega,h2⟩ ?_;rintro ⟨out,k,d0,d1,d2,⟨⟩⟩ ⟨i0,i1,i2,i3⟩;dsimp only at i0 i1 i2 i3;show Gets (Jk (Zr b) r1 out k d0 d1 d2) _;unfold Jk;rw[e1];refine Gets.ite (λhk=>?_) (λ_=>?_)
 ·refine .guard (by simp only[List.length_cons,List.length_nil];omega) ?_
  refine (Zz i3 _).bind λr3 ⟨⟨f0,f1⟩,h3⟩=>?_;have f2:r3.1<=8:=by omega
  have e3:Wq (1+r3.1)=1+r3.1:=YI (by omega) (by omega);have e4:Wq (k+(1+r3.1))=k+(1+r3.1):=YI (by omega) (by omega);rw[e3,e4];exact .ret ⟨⟨by dsimp only;omega,by dsimp only;omega,by dsimp only;simp only[List.length_append,List.length_cons,List.length_nil];omega,h3⟩,by dsimp only;omega⟩
 ·refine (Zz i3 _).bind λr3 ⟨_,h3⟩=>?_
  refine Gets.ite (λ_=>?_) (λ_=>.ret (show out.length<=7000/\Src r3.2 from ⟨by omega,h3⟩));refine (Zz h3 _).bind λr4 ⟨_,h4⟩=>?_;refine .guard (by simp only[List.length_cons,List.length_nil];omega) (.ret ⟨?_,h4⟩);show (out++[_]).length<=7000;simp only[List.length_append,List.length_cons,List.length_nil];omega
theorem Zor {s:Zf} (hs:Src s):Gets (QB s) (λr=>(Zt.Name r.1).length<=5/\Src r.2):=by
 unfold QB;refine (Zz hs 3).bind λr0 ⟨⟨a0,a1⟩,h0⟩=>?_;refine .at a0 (by simp only[List.length_cons,List.length_nil];omega) λx hx _=>?_;have hx5:x.length<=5:=by
  simp only[List.mem_cons,List.not_mem_nil,or_false] at hx;rcases hx with rfl | rfl | rfl
  ·exact Nat.le_of_ble_eq_true rfl
  ·exact Nat.le_of_ble_eq_true rfl
  ·exact Nat.le_of_ble_eq_true rfl
 refine (Zz h0 _).bind λr1 ⟨_,h1⟩=>?_;refine (Zz h1 _).bind λr2 ⟨_,h2⟩=>?_;refine (Zz h2 _).bind λr3 ⟨_,h3⟩=>?_;refine (Zz h3 _).bind λr4 ⟨_,h4⟩=>?_;refine (Zz h4 _).bind λr5 ⟨_,h5⟩=>?_;refine Gets.ite (λ_=>.ret ⟨hx5,h5⟩) (λ_=>?_);refine Gets.ite (λ_=>?_) (λ_=>?_)
 ·refine (Zz h5 3).bind λr6 ⟨⟨b0,b1⟩,h6⟩=>?_
  exact .at b0 (by simp only[List.length_cons,List.length_nil];omega) λ_ _ _=>.ret ⟨hx5,h6⟩
 refine Gets.ite (λ_=>?_) (λ_=>?_)
 ·exact (Zz h5 2).bind λr6 ⟨_,h6⟩=>.ret ⟨hx5,h6⟩
 ·exact Gets.ite (λ_=>.ret ⟨by show ([]:List UInt8).length<=5;simp,h5⟩) (λ_=>.ret ⟨hx5,h5⟩)
theorem Zn5 {s:Zf} (hs:Src s) {b:Zc} (hb:sm YC b):Gets (ZP s b) (λr=>r.1.length<=400/\Src r.2):=by
 unfold ZP;rw[Va b hb,Bq];refine Gets.ite (λhB=>?_) (λ_=>.ret ⟨by simp,hs⟩);have h:XT b:=⟨(YH _).1 hB,hb⟩;have hf:=h.ok.1.few;have hpl:=YK hf;rw[YW _ hf,Bq];generalize places (Zc.Design b)=ps at hpl;refine Gets.loop (λv=>0<=v.2.1/\v.2.1<=(ps.length:Int)/\(v.1.length:Int)<=2*v.2.1/\Src (v.2.2.1,v.2.2.2.1,v.2.2.2.2.1,())) (λv=>((ps.length:Int)-v.2.1).toNat) ⟨Int.le_refl _,by dsimp only;omega,by dsimp only[List.length_nil];omega,hs⟩ ?_;rintro ⟨out,p,c0,c1,c2,⟨⟩⟩ ⟨i0,i1,i2,i3⟩;dsimp only at i0 i1 i2 i3;show Gets (VX ps out p c0 c1 c2) _;unfold VX;have ep:Wq (p+1)=p+1:=YI (by omega) (by omega);refine Gets.ite (λhp=>?_) (λhp=>?_)
 ·refine .at i0 hp λx _ _=>?_
  refine Gets.ite (λ_=>?_) (λ_=>?_)
  ·refine Gets.loop (λv=>0<=v.2.1/\v.2.1<=2/\(v.1.length:Int)<=2*p+v.2.1/\Src (v.2.2.1,v.2.2.2.1,v.2.2.2.2.1,())) (λv=>(2-v.2.1).toNat) ⟨Int.le_refl _,by dsimp only;omega,by dsimp only;omega,i3⟩ ?_
   rintro ⟨o,k,d0,d1,d2,⟨⟩⟩ ⟨j0,j1,j2,j3⟩;dsimp only at j0 j1 j2 j3;show Gets (VU p x o k d0 d1 d2) _;unfold VU;have ek:Wq (k+1)=k+1:=YI (by omega) (by omega);rw[ek,ep];have four:∀ {t:Zf} {β:Type} {Q:β->Prop} {f:Int×Zf->Int×Zf->Int×Zf->Int×Zf->Option β},Src t->(∀ q1 q2 q3 q4:Int×Zf,Src q4.2->Gets (f q1 q2 q3 q4) Q)->
     Gets ((Zj t (200:Int)).bind λq1=>(Zj q1.snd (30:Int)).bind λq2=>(Zj q2.snd (40:Int)).bind λq3=>(Zj q3.snd (12:Int)).bind λq4=>f q1 q2 q3 q4) Q:=λht hf =>
    (Zz ht _).bind λq1 ⟨_,g1⟩=>(Zz g1 _).bind λq2 ⟨_,g2⟩=>(Zz g2 _).bind λq3 ⟨_,g3⟩=>(Zz g3 _).bind λq4 ⟨_,g4⟩=>hf q1 q2 q3 q4 g4
   refine Gets.ite (λhk=>?_) (λhk=>?_)
   ·refine Gets.ite (λ_=>?_) (λ_=>?_)
    ·refine (Zz j3 _).bind λr ⟨_,h1⟩=>?_
     refine Gets.ite (λ_=>?_) (λ_=>?_)
     ·refine four h1 λq1 q2 q3 q4 g=>?_
      exact .guard (by simp only[List.length_cons,List.length_nil];omega) (.ret ⟨⟨by dsimp only;omega,by dsimp only;omega,by dsimp only;simp only[List.length_append,List.length_cons,List.length_nil];omega,g⟩,by dsimp only;omega⟩)
     ·refine (Zz h1 _).bind λr ⟨_,h2⟩=>?_
      refine Gets.ite (λ_=>?_) (λ_=>?_)
      ·refine four h2 λq1 q2 q3 q4 g=>?_
       exact .guard (by simp only[List.length_cons,List.length_nil];omega) (.ret ⟨⟨by dsimp only;omega,by dsimp only;omega,by dsimp only;simp only[List.length_append,List.length_cons,List.length_nil];omega,g⟩,by dsimp only;omega⟩)
      ·exact .ret ⟨⟨by dsimp only;omega,by dsimp only;omega,by dsimp only;omega,h2⟩,by dsimp only;omega⟩
    ·refine (Zz j3 _).bind λr ⟨_,h1⟩=>?_
     refine Gets.ite (λ_=>?_) (λ_=>?_)
     ·refine four h1 λq1 q2 q3 q4 g=>?_
      exact .guard (by simp only[List.length_cons,List.length_nil];omega) (.ret ⟨⟨by dsimp only;omega,by dsimp only;omega,by dsimp only;simp only[List.length_append,List.length_cons,List.length_nil];omega,g⟩,by dsimp only;omega⟩)
     ·exact .ret ⟨⟨by dsimp only;omega,by dsimp only;omega,by dsimp only;omega,h1⟩,by dsimp only;omega⟩
   ·exact .ret ⟨⟨by dsimp only;omega,by dsimp only;omega,by dsimp only;omega,j3⟩,by dsimp only;omega⟩
  ·refine Gets.loop (λv=>0<=v.2.1/\v.2.1<=2/\(v.1.length:Int)<=2*p+v.2.1/\Src (v.2.2.1,v.2.2.2.1,v.2.2.2.2.1,())) (λv=>(2-v.2.1).toNat) ⟨Int.le_refl _,by dsimp only;omega,by dsimp only;omega,i3⟩ ?_
   rintro ⟨o,k,d0,d1,d2,⟨⟩⟩ ⟨j0,j1,j2,j3⟩;dsimp only at j0 j1 j2 j3;show Gets (VW p o k d0 d1 d2) _;unfold VW;have ek:Wq (k+1)=k+1:=YI (by omega) (by omega);rw[ek,ep];refine Gets.ite (λhk=>?_) (λhk=>?_)
   ·refine (Zz j3 _).bind λr ⟨_,h1⟩=>?_
    refine Gets.ite (λ_=>?_) (λ_=>?_)
    ·refine (Zz h1 _).bind λq1 ⟨_,g1⟩=>(Zz g1 _).bind λq2 ⟨_,g2⟩=>(Zz g2 _).bind λq3 ⟨_,g3⟩=>(Zz g3 _).bind λq4 ⟨_,g4⟩=>?_
     exact .guard (by simp only[List.length_cons,List.length_nil];omega) (.ret ⟨⟨by dsimp only;omega,by dsimp only;omega,by dsimp only;simp only[List.length_append,List.length_cons,List.length_nil];omega,g4⟩,by dsimp only;omega⟩)
    ·exact .ret ⟨⟨by dsimp only;omega,by dsimp only;omega,by dsimp only;omega,h1⟩,by dsimp only;omega⟩
   ·exact .ret ⟨⟨by dsimp only;omega,by dsimp only;omega,by dsimp only;omega,j3⟩,by dsimp only;omega⟩
 ·refine Gets.ite (λh0=>?_) (λ_=>.ret (show out.length<=400/\Src (c0,c1,c2,()) from ⟨by omega,i3⟩))
  refine (Zz i3 _).bind λr ⟨⟨a0,a1⟩,h1⟩=>?_;have a2:r.1<(out.length:Int):=by omega
  refine (Zz h1 _).bind λr2 ⟨_,h2⟩=>?_;have fin:∀ y:Zh,Gets (some (.inr (List.set out (Int.toNat r.1) y,r2.2)):Option (((List Zh)×Int×(List Int)×Int×Int×Unit) ⊕ ((List Zh)×Zf))) (Rnd (λv:(List Zh)×Int×(List Int)×Int×Int×Unit=>0<=v.2.1/\v.2.1<=(ps.length:Int)/\(v.1.length:Int)<=2*v.2.1/\Src (v.2.2.1,v.2.2.2.1,v.2.2.2.2.1,())) (λv=>((ps.length:Int)-v.2.1).toNat) ((ps.length:Int)-p).toNat (λr=>r.1.length<=400/\Src r.2)):=λy =>
   .ret (show (List.set out (Int.toNat r.1) y).length<=400/\Src r2.2 from ⟨by rw[List.length_set];omega,h2⟩)
  refine Gets.ite (λ_=>?_) (λ_=>?_)
  ·exact .at (Int.le_refl _) h0 λ_ _ _=>.at a0 a2 λ_ _ _=>fin _
  refine Gets.ite (λ_=>?_) (λ_=>?_)
  ·exact .at a0 a2 λ_ _ _=>fin _
  refine Gets.ite (λ_=>?_) (λ_=>?_)
  ·exact .at a0 a2 λ_ _ _=>fin _
  refine Gets.ite (λ_=>?_) (λ_=>?_)
  ·exact .at a0 a2 λ_ _ _=>fin _
  ·exact .ret (show out.length<=400/\Src r2.2 from ⟨by omega,h2⟩)
theorem Zru {s:Zf} (hs:Src s):Gets (Vr s) (λr=>Zvh r.1/\(Zt.Name r.2.1).length<=5/\r.2.2.1.length<=7000/\r.2.2.2.1.length<=400/\Src r.2.2.2.2):=by
 unfold Vr;refine (Zlf hs).bind λr0 ⟨hb,h0⟩=>?_;refine (Zor h0).bind λr1 ⟨hc,h1⟩=>?_;refine (Zz h1 _).bind λr2 ⟨_,h2⟩=>?_;have rest:∀ (b:Zc) {t:Zf},Zvh b->Src t->Gets ((QA t b).bind λl09DrawBroken0 =>
   (Qs b).bind λIsBlock0 =>
   if IsBlock0=true then
    if (↑(List.length l09DrawBroken0.fst):Int)=(0:Int) then
     (Zj l09DrawBroken0.snd (6:Int)).bind λl01Next1 =>
     if (0:Int)<l01Next1.fst then
      (ZaZ b).bind λl10Break0 =>
      (ZP l01Next1.snd b).bind λl12DrawSources0 =>
      some (b,r1.fst,l10Break0,l12DrawSources0.fst,l12DrawSources0.snd)
     else
      (ZP l01Next1.snd b).bind λl12DrawSources0 =>
      some (b,r1.fst,l09DrawBroken0.fst,l12DrawSources0.fst,l12DrawSources0.snd)
    else
     (ZP l09DrawBroken0.snd b).bind λl12DrawSources0 =>
     some (b,r1.fst,l09DrawBroken0.fst,l12DrawSources0.fst,l12DrawSources0.snd)
   else
    (ZP l09DrawBroken0.snd b).bind λl12DrawSources0 =>
    some (b,r1.fst,l09DrawBroken0.fst,l12DrawSources0.fst,l12DrawSources0.snd))
   (λr:Zc×Zt×(List Int)×(List Zh)×Zf=>Zvh r.1/\(Zt.Name r.2.1).length<=5/\r.2.2.1.length<=7000/\r.2.2.2.1.length<=400/\Src r.2.2.2.2):=λb t hb ht=>by
  refine (Zop ht hb.1.1).bind λr3 ⟨hl,h3⟩=>?_;rw[Va b hb.1.1,Bq];have src:∀ {t:Zf} (br:List Int),Src t->br.length<=7000->Gets ((ZP t b).bind λl12DrawSources0=>some (b,r1.fst,br,l12DrawSources0.fst,l12DrawSources0.snd)) (λr:Zc×Zt×(List Int)×(List Zh)×Zf=>Zvh r.1/\(Zt.Name r.2.1).length<=5/\r.2.2.1.length<=7000/\r.2.2.2.1.length<=400/\Src r.2.2.2.2):=λbr ht hbr =>
   (Zn5 ht hb.1.1).bind λq ⟨hq,g⟩=>.ret ⟨hb,hc,hbr,hq,g⟩
  refine Gets.ite (λhB=>?_) (λ_=>src _ h3 hl);refine Gets.ite (λ_=>?_) (λ_=>src _ h3 hl);refine (Zz h3 _).bind λr4 ⟨_,h4⟩=>?_;refine Gets.ite (λ_=>?_) (λ_=>src _ h4 hl);exact (Zqp ⟨(YH _).1 hB,hb.1.1⟩).bind λq hq=>src _ h4 (by omega)
 refine Gets.ite (λ_=>?_) (λ_=>rest r0.1 hb h2);exact (Zif h2 (most:=5) (by omega) (by omega) _).bind λr3 ⟨hd,h3⟩=>rest r3.1 hd.f h3
theorem ZqQ {s:Zf} (hs:Src s) {b:Zc} (hb:Few (Zc.Design b)):Gets (Za1 s b) (λr=>r.1.length<=300/\Src r.2):=by
 have hpl:=YK hb;unfold Za1;refine Gets.loop (λv=>0<=v.2.1/\v.2.1<=((2*(places (Zc.Design b)).length:Nat):Int)/\(v.1.length:Int)<=v.2.1/\Src (v.2.2.1,v.2.2.2.1,v.2.2.2.2.1,())) (λv=>(((2*(places (Zc.Design b)).length:Nat):Int)-v.2.1).toNat) ⟨Int.le_refl _,by dsimp only;omega,by dsimp only[List.length_nil];omega,hs⟩ ?_;rintro ⟨out,k,c0,c1,c2,⟨⟩⟩ ⟨i0,i1,i2,i3⟩;dsimp only at i0 i1 i2 i3;show Gets (JM b out k c0 c1 c2) _;unfold JM;rw[ZkC hb,Bq];have ek:Wq (k+1)=k+1:=YI (by omega) (by omega);rw[ek];refine Gets.ite (λhk=>?_) (λhk=>?_)
 ·refine (Zz i3 _).bind λr ⟨_,h1⟩=>?_
  refine Gets.ite (λ_=>?_) (λ_=>?_)
  ·exact .guard (by simp only[List.length_cons,List.length_nil];omega) (.ret ⟨⟨by dsimp only;omega,by dsimp only;omega,by dsimp only;simp only[List.length_append,List.length_cons,List.length_nil];omega,h1⟩,by dsimp only;omega⟩)
  ·exact .ret ⟨⟨by dsimp only;omega,by dsimp only;omega,by dsimp only;omega,h1⟩,by dsimp only;omega⟩
 ·refine (Zz i3 _).bind λr ⟨_,h1⟩=>?_
  refine Gets.ite (λ_=>?_) (λ_=>.ret (show out.length<=300/\Src r.2 from ⟨by omega,h1⟩));refine (Zz h1 _).bind λr2 ⟨_,h2⟩=>?_;refine .guard (by simp only[List.length_cons,List.length_nil];omega) (.ret ⟨?_,h2⟩);show (out++[_]).length<=300;simp only[List.length_append,List.length_cons,List.length_nil];omega
theorem Zn3 {c:Zt} (h:(Zt.Name c).length<=1048576):sm Xf c:=⟨smS h,trivial,trivial,trivial,trivial,trivial⟩
theorem Zgo {a b:List Zv} (hl:a.length=b.length) (hn:a.length<=1000):Zbk a b=some (tr (a=b)):=by
 unfold Zbk;rw[if_pos (by omega),QC (l:=a) (show Len a by unfold Len;omega) (λk x=>b[k]?=some x) (bad:=false) (good:=true) (step:=λv=>Xo a b v.1)
  (λk x hx hk _=>by
   have hy:b[k]?=some (b[k]'(by omega)):=List.getElem?_eq_getElem _;generalize b[k]'(by omega)=y at hy;show (_->Xo a b (k:Int)=_)/\(_->Xo a b (k:Int)=_);unfold Xo;rw[if_pos (by omega),Zo,Zo,hx,hy,Bq,Bq];have e:(decide (Zv.Early x=Zv.Early y)&&decide (Zv.Late x=Zv.Late y))=eqS x y:=rfl;rw[e];constructor
   ·intro q
    injection q with q
    rw[if_pos (Zik.2 q.symm)]
   ·intro q
    rw[if_neg (λz=>q (by rw[Zik.1 z]))])
  (λ_=>by
   show Xo a b (a.length:Int)=_;unfold Xo;rw[if_neg (Int.lt_irrefl _)]),Zfe]
 congr 1;refine tr_same ⟨λh=>?_,λh=>by subst h;exact λk x hx=>hx⟩;apply List.ext_getElem?;intro k;by_cases hk:k<a.length
 ·have hx:a[k]?=some (a[k]'hk):=List.getElem?_eq_getElem _
  rw[hx,h k _ hx]
 ·rw[List.getElem?_eq_none (by omega),List.getElem?_eq_none (by omega)]
where
 tr_same {p q:Prop} (h:p<->q):tr p=tr q:=by
  by_cases z:q
  ·rw[ZU z,ZU (h.2 z)]
  ·rw[Z4 z,Z4 (λy=>z (h.1 y))]
theorem ZzJ {t t':Ze} {n:Nat} (ht:Zf9 n t) (ht':Zf9 n t') (hn:n<=1000):Zcq t t'=some (tr (t=t')):=by
 have h1:=ht.lr;have h2:=ht.la;have h3:=ht.ls;have g1:=ht'.lr;have g2:=ht'.la;have g3:=ht'.ls;unfold Zcq;rw[if_pos (by omega),Zgo (by omega) (by omega),Bq];by_cases q1:Ze.ZA t=Ze.ZA t';rotate_left
 ·rw[if_neg (λz=>q1 ((YH _).1 z)),Z4 (λz=>q1 (by rw[z]))]
 rw[if_pos (ZU q1),Zgo (by omega) (by omega),Bq];by_cases q2:Ze.Xx t=Ze.Xx t';rotate_left
 ·rw[if_neg (λz=>q2 ((YH _).1 z)),Z4 (λz=>q2 (by rw[z]))]
 rw[if_pos (ZU q2),QC (l:=Ze.Reached t) (show Len (Ze.Reached t) by unfold Len;omega) (λk x=>(Ze.Reached t')[k]?=some x) (bad:=false) (good:=true) (step:=λv=>XG t t' v.1)
  (λk x hx hk _=>by
   have hy:(Ze.Reached t')[k]?=some ((Ze.Reached t')[k]'(by omega)):=List.getElem?_eq_getElem _;generalize (Ze.Reached t')[k]'(by omega)=y at hy;show (_->XG t t' (k:Int)=_)/\(_->XG t t' (k:Int)=_);unfold XG;rw[if_pos (by omega),Zo,Zo,hx,hy,Bq,Bq];constructor
   ·intro q
    injection q with q
    rw[if_pos (by rw[q];exact beq_self_eq_true _)]
   ·intro q
    rw[if_neg (λz=>q (by rw[eq_of_beq z]))])
  (λ_=>by
   show XG t t' ((Ze.Reached t).length:Int)=_;unfold XG;rw[if_neg (Int.lt_irrefl _)]),Zfe]
 congr 1;refine Zgo.tr_same ⟨λh=>?_,λh=>by subst h;exact λk x hx=>hx⟩;have e1:Ze.Reached t=Ze.Reached t':=by
  apply List.ext_getElem?;intro k;by_cases hk:k<(Ze.Reached t).length
  ·have hx:(Ze.Reached t)[k]?=some ((Ze.Reached t)[k]'hk):=List.getElem?_eq_getElem _
   rw[hx,h k _ hx]
  ·rw[List.getElem?_eq_none (by omega),List.getElem?_eq_none (by omega)]
 obtain ⟨a,b,c,⟨⟩⟩:=t;obtain ⟨a',b',c',⟨⟩⟩:=t';have e1:a=a':=e1;have q1:b=b':=q1;have q2:c=c':=q2;rw[e1,q1,q2]
theorem Zo3 {s:Zf} (hs:Src s) {b:Zc} (hb:sm YC b) {c:Zt} (hc:(Zt.Name c).length<=5) {br:List Int} (hbr:br.length<=7000) {l:List Zh} (hl:l.length<=400):Gets (Zak s b c br l) (λr=>Src r.2):=by
 obtain ⟨r,_,e2,h⟩:=Zsv b c br l hb (Zn3 (by omega)) (by omega) (by omega);unfold Zak;rw[e2,Bq];have hL:∃ n,r.1.1.length=n/\r.1.2.1.length=n/\r.1.2.2.1.length=n:=by
  rcases h with ⟨_,h⟩ | ⟨h,_⟩
  ·exact ⟨XF b,h.tb.lr,h.tb.la,h.tb.ls⟩
  ·rw[h];exact ⟨0,rfl,rfl,rfl⟩
 obtain ⟨n,l1,l2,l3⟩:=hL;refine Gets.ite (λ_=>.ret hs) (λh0=>?_);refine (Zz hs 8).bind λr0 ⟨_,h1⟩=>Gets.ite (λ_=>.ret h1) (λ_=>?_);refine (Zz h1 _).bind λr1 ⟨⟨a0,a1⟩,h2⟩=>(Zz h2 4).bind λr2 ⟨_,h3⟩=>?_;refine Gets.ite (λ_=>.at a0 (by omega) λ_ _ _=>.ret h3) (λ_=>?_);refine Gets.ite (λ_=>.at a0 (by omega) λ_ _ _=>.ret h3) (λ_=>?_);exact Gets.ite (λ_=>.at a0 (by omega) λ_ _ _=>.ret h3) (λ_=>.guard a0 (.guard (by omega) (.ret h3)))
theorem Zj5 {code:List Int} (hb:bnd (.sl (.int .u8)) code) (hl:code.length<=4096):Gets (VG code) (λr=>sm YC r.1/\sm Xf r.2.1/\r.2.2.1.length<=7000/\r.2.2.2.1.length<=400/\r.2.2.2.2.2.length<=300):=by
 unfold VG;refine (ZrY (bytesD hb) hl).bind λs hs=>?_;refine (Zru hs).bind λr0 ⟨hB,hc,hbr,hsr,h1⟩=>?_;refine (Zo3 h1 hB.1.1 hc hbr hsr).bind λr1 h2=>?_;exact (ZqQ h2 hB.2).bind λr2 ⟨hn,_⟩=>.ret ⟨hB.1.1,Zn3 (c:=r0.2.1) (by omega),hbr,hsr,hn⟩
theorem Zl9 {b:Zc} {c:Zt} {live:List Bool} {l:List Zh} {t:Ze} {n:Nat}:ZcZ b c live l t n=[]<->∀ k:Nat,k<n->Zc7 t (k:Int)=Zlr (newV b c live l t (k:Int)):=by
 unfold ZcZ;rw[List.map_eq_nil_iff,List.filter_eq_nil_iff];constructor
 ·intro h k hk
  have:=h k (List.mem_range.2 hk);rw[Bool.not_eq_true] at this;exact Zma.1 this
 ·intro h k hk
  rw[Zma.2 (h k (List.mem_range.1 hk))];decide
def ZDD (r:Row):Prop:=JN r.2.1/\Zef r.2.2/\(r.1=false->r.2.1=Jq/\r.2.2=Jq)
def ZEk:Row:=(false,Jq,Jq)
theorem ZDJ:JN Jq:=by
 refine ⟨⟨?_,?_⟩,⟨?_,?_⟩,?_⟩<;>decide
theorem ZDQ:ZDD ZEk:=⟨ZDJ,ZCK,λ_=>⟨rfl,rfl⟩⟩
theorem ZCt {s:Zv}:Zero s<->s=Jq:=⟨λh=>Zui h.1 h.2,λh=>by rw[h];exact ⟨rfl,rfl⟩⟩
theorem ZDN {t:Ze} {k:Nat} {x:Bool} {a s:Zv} (hx:(Ze.Reached t)[k]?=some x) (ha:(Ze.ZA t)[k]?=some a) (hs:(Ze.Xx t)[k]?=some s):Zc7 t (k:Int)=(x,a,s):=by
 unfold Zc7;rw[Zo,Zo,Zo,hx,ha,hs];rfl
theorem ZDy {t:Ze} {n:Nat} (h:Zlc (n:Int) t) {k:Nat} (hk:k<n):ZDD (Zc7 t (k:Int)):=by
 obtain ⟨h1,h2,h3,h4⟩:=h;have hx:(Ze.Reached t)[k]?=some ((Ze.Reached t)[k]'(by omega)):=List.getElem?_eq_getElem _;obtain ⟨a,s,ha,hs,o1,o2,o3⟩:=h4 k _ hx;rw[ZDN hx ha hs];exact ⟨o1,o2,λq=>⟨ZCt.1 (o3 q).1,ZCt.1 (o3 q).2⟩⟩
theorem ZDx {t:Ze} {n:Nat} (h:Zf9 n t) (hr:∀ k:Nat,k<n->ZDD (Zc7 t (k:Int))):Zlc (n:Int) t:=by
 have h1:=h.lr;have h2:=h.la;have h3:=h.ls;refine ⟨by omega,by omega,by omega,λk x hx=>?_⟩;have hk:=(List.getElem?_eq_some_iff.1 hx).1;have ha:(Ze.ZA t)[k]?=some ((Ze.ZA t)[k]'(by omega)):=List.getElem?_eq_getElem _;have hs:(Ze.Xx t)[k]?=some ((Ze.Xx t)[k]'(by omega)):=List.getElem?_eq_getElem _;have:=hr k (by omega);rw[ZDN hx ha hs] at this;exact ⟨_,_,ha,hs,this.1,this.2.1,λq=>⟨ZCt.2 (this.2.2 q).1,ZCt.2 (this.2.2 q).2⟩⟩
theorem ZDv {b:Zc} {c:Zt} {live:List Bool} {l:List Zh} {t:Ze} {u:Int} (hs:StO (Zcr b c live l t u)) (hg:Zqj (Zlr (newV b c live l t u))):ZDD (Zlr (newV b c live l t u)):=by
 unfold newV at hg ⊢;cases e:Zcr b c live l t u with
 | none=>exact ZDQ
 | some q =>
  rw[e] at hg;exact ⟨hg rfl,hs q e,λz=>by cases z⟩
theorem Is.ZDS {b:Zc} {c:Zt} {br:List Int} {l:List Zh} {t:Ze} (h:Is b c br l t):Zlc (XF b:Int) t:=by
 obtain ⟨v,_,hv⟩:=Zs9 h.asked.blk;have hsl:∀ x∈l,Zef (Zh.Xx x):=λx hx=>by
  obtain ⟨k,hk⟩:=List.mem_iff_getElem?.1 hx;exact (h.asked.src k x hk).2.2.2
 have hok:=Zu1 h.asked.ord;have key:∀ (r out:List Int),ZjY (Jo b br) (Zr b) out r->(∀ u∈r,0<=u/\u<(XF b:Int))->(∀ u∈out,Zef (Zc7 t u).2.2)->∀ u∈out++r,Zef (Zc7 t u).2.2:=by
  intro r;induction r with
  | nil=>intro out _ _ ho;rw[List.append_nil];exact ho
  | cons v' r ih =>
   intro out hI hn ho;have:=ih (out++[v']) hI.2 (λu hu=>hn u (List.mem_cons_of_mem _ hu)) (λu hu=>by
    rcases List.mem_append.1 hu with q | q
    ·exact ho u q
    ·rw[List.mem_singleton.1 q,h.right v' (hn v' List.mem_cons_self).1 (hn v' List.mem_cons_self).2]
     exact newV_slw h.asked hv hsl hI.1.2.2 ho)
   rw[List.append_assoc] at this;exact this
 have hs:=key (Zay b br).1 [] hok.ord hok.inn (λu hu=>by cases hu);have hall:∀ s∈Ze.Xx t,Zef s:=λs hs'=>by
  obtain ⟨k,hk⟩:=List.mem_iff_getElem?.1 hs';have hkl:=(List.getElem?_eq_some_iff.1 hk).1;have:=hs (k:Int) (by rw[List.nil_append];exact hok.all _ (by omega) (by have:=h.tb.ls;omega));unfold Zc7 at this;rw[show atI (Ze.Xx t) (k:Int)=some s by rw[Zo];exact hk] at this;exact this
 refine ZDx h.tb λk hk=>?_;have e:=h.right (k:Int) (by omega) (by omega);rw[e];exact ZDv (ZDw h.asked.blk hv h.asked.cor hall hsl _ _) (by rw[<-e];exact h.good _ (by omega) (by omega))
where
 newV_slw {b:Zc} {c:Zt} {br:List Int} {l:List Zh} {t:Ze} {v:ZG} (hA:Zie b c br l) (hv:VOk b v) (hsl:∀ x∈l,Zef (Zh.Xx x)) {out:List Int} {u:Int} (hr:Rdy (Jo b br) (Zr b) out u) (ho:∀ w∈out,Zef (Zc7 t w).2.2):Zef (Zlr (newV b c (Jo b br) l t u)).2.2:=by
  have hst:StO (Zcr b c (Jo b br) l t u):=by
   unfold Zcr;refine Zir (I:=StO) _ _ _ ?_ λk x st hx hst=>?_
   ·unfold ZfR
    refine Zir (I:=StO) _ _ _ (λq hq=>by cases hq) λk x st hx hst=>?_;split
    ·intro q hq
     injection hq with hq
     rw[<-hq];exact hsl x (List.mem_of_getElem? hx)
    ·exact hst
   ·rw[Nat.zero_add]
    split
    ·rename_i hlv
     split
     ·rename_i ht
      have hf:=ho _ (hr k x hx hlv ht);have hsp:=ZDB hA.blk hv hA.cor (List.mem_of_getElem? hx) hf;unfold Zl6;split
      ·intro q hq
       cases st with
       | none =>
        have hq:some (_,(spn b c x ((atI (Ze.Xx t) (Zm.From x)).getD Jq)).2)=some q:=hq;injection hq with hq
        rw[<-hq];exact hsp
       | some r =>
        have hq:some (_,hul r.2 (spn b c x ((atI (Ze.Xx t) (Zm.From x)).getD Jq)).2)=some q:=hq;injection hq with hq
        rw[<-hq];exact ZCF (hst r rfl) hsp
      ·exact hst
     ·exact hst
    ·exact hst
  unfold newV;cases e:Zcr b c (Jo b br) l t u with
  | none=>exact ZCK
  | some q=>exact hst q e
theorem ZCy {n:Nat} (u:Int):atI (List.replicate n false) u≠some true:=by
 unfold atI;split
 ·rw[List.getElem?_replicate]
  split
  ·intro q;cases q
  ·intro q;cases q
 ·intro q;cases q
section
variable {b:Zc} {c:Zt} {br:List Int} {l:List Zh} {t:Ze}
theorem ZDa (ht:Zf9 (XF b) t):Mid b (Jo b br) t (XF b) [] t (List.replicate (XF b) false) where
 tb:=ht
 cl:=List.length_replicate
 clo:=λu hu=>by cases hu
 rest:=λu _=>⟨rfl,ZCy u⟩
 keep:=λu hu=>by cases hu
theorem ZDC (hA:Zie b c br l) {dirty:List Int} (hT:Zlc (XF b:Int) t) (hcar:∀ u:Int,0<=u->u<(XF b:Int)->u ∉ dirty->Zc7 t u=Zlr (newV b c (Jo b br) l t u)) {C:Int->Prop} (hC1:∀ u∈dirty,C u) (hC2:∀ (k:Nat) (x:Zm),(Zr b)[k]?=some x->(Jo b br)[k]?=some true->C (Zm.From x)->C (Zm.To x)) :
  ((ZCo b c (Jo b br) l dirty (Zay b br).1 [] t (List.replicate (XF b) false)).1=true->Is b c br l (ZCo b c (Jo b br) l dirty (Zay b br).1 [] t (List.replicate (XF b) false)).2.2/\
   (ZCo b c (Jo b br) l dirty (Zay b br).1 [] t (List.replicate (XF b) false)).2.1.Sublist (Zay b br).1/\(∀ u:Int,0<=u->u<(XF b:Int)->u∈dirty->u∈(ZCo b c (Jo b br) l dirty (Zay b br).1 [] t (List.replicate (XF b) false)).2.1)/\∀ u∈(ZCo b c (Jo b br) l dirty (Zay b br).1 [] t (List.replicate (XF b) false)).2.1,C u)/\
  (∀ T,Is b c br l T->(ZCo b c (Jo b br) l dirty (Zay b br).1 [] t (List.replicate (XF b) false)).1=true):=by
 obtain ⟨v,_,hv⟩:=Zs9 hA.blk;have hok:=Zu1 hA.ord;have htb:=Zz6 (b:=b) (t:=t) (by rw[show 2*((places (Zc.Design b)).length:Int)=(XF b:Int) by have:=nN b;omega];exact hT);have hgood:∀ u∈(Zay b br).1,Zqj (Zc7 t u):=λu hu _=>by
  have:=ZDy hT (k:=u.toNat) (by have:=hok.inn u hu;omega);rw[show ((u.toNat:Nat):Int)=u by have:=hok.inn u hu;omega] at this;exact this.1
 refine ⟨λhr=>?_,λT hI=>?_⟩
 ·obtain ⟨k1,k2,d',k3,k4,k5,k6⟩:=ZDp (b:=b) (c:=c) (live:=Jo b br) (l:=l) (t0:=t) (hst hA hv) hC1 hC2 (Zay b br).1 [] [] t (List.replicate (XF b) false) hok.ord (λu hu=>(hok.inn u hu).2) (λu hu hd=>⟨hcar u (hok.inn u hu).1 (hok.inn u hu).2 hd,hgood u hu⟩) (ZDa htb) (λu hu=>by cases hu) (λu hu=>absurd hu (ZCy u)) hr
  rw[List.nil_append] at k2 k3;refine ⟨⟨hA,k1,λu h0 h1=>(k2 u (hok.all u h0 h1)).1,λu h0 h1=>(k2 u (hok.all u h0 h1)).2⟩,by rw[k3];exact k4,λu h0 h1 hd=>by rw[k3];exact k5 u (hok.all u h0 h1) hd,by rw[k3];exact k6⟩
 ·exact ZCz (b:=b) (c:=c) (live:=Jo b br) (l:=l) (t0:=t) (T:=T) (hst hA hv) (Zay b br).1 [] [] t (List.replicate (XF b) false) hok.ord (λu hu=>(hok.inn u hu).2) (λu hu hd=>hcar u (hok.inn u hu).1 (hok.inn u hu).2 hd) (ZDa htb) (λu hu=>by cases hu) (λu hu=>⟨hI.right u (hok.inn u hu).1 (hok.inn u hu).2,hI.good u (hok.inn u hu).1 (hok.inn u hu).2⟩)
end
theorem ZCs (code:List Int) (hb:bnd (.sl (.int .u8)) code):ZCg code=some true:=by
 unfold ZCg ZmF;rw[Bq];by_cases hbig:decide ((4096:Int)<(code.length:Int))=true
 ·rw[if_pos hbig]
 rw[if_neg hbig];have hlen:code.length<=4096:=by
  simp only[decide_eq_true_eq] at hbig;omega
 obtain ⟨⟨b,c,br,l,t,nd⟩,hd,hB,hC,hbr,hl,hnd⟩:=Zj5 hb hlen;have hB:sm YC b:=hB;have hC:sm Xf c:=hC;have hbr:br.length<=7000:=hbr;have hl:l.length<=400:=hl;have hnd:nd.length<=300:=hnd;rw[hd,Bq];obtain ⟨r,n,e1,e2,_,_,_,h⟩:=ZCp b c br l t nd hB hC (by omega) (by omega) (by omega);obtain ⟨q,g1,_,hq⟩:=Zsv b c br l hB hC (by omega) (by omega);rw[show ZB3 (b,c,br,l,t,nd).fst (b,c,br,l,t,nd).snd.fst (b,c,br,l,t,nd).snd.snd.fst (b,c,br,l,t,nd).snd.snd.snd.fst (b,c,br,l,t,nd).snd.snd.snd.snd.fst (b,c,br,l,t,nd).snd.snd.snd.snd.snd=some r from e1,Bq,show ZCc (b,c,br,l,t,nd).fst (b,c,br,l,t,nd).snd.fst (b,c,br,l,t,nd).snd.snd.fst (b,c,br,l,t,nd).snd.snd.snd.fst (b,c,br,l,t,nd).snd.snd.snd.snd.fst (b,c,br,l,t,nd).snd.snd.snd.snd.snd=some r from e2,Bq,if_pos rfl];by_cases hr0:r.2.2=0;rotate_left
 ·rw[if_neg hr0]
 rw[if_pos hr0,show QG (b,c,br,l,t,nd).fst (b,c,br,l,t,nd).snd.fst (b,c,br,l,t,nd).snd.snd.fst (b,c,br,l,t,nd).snd.snd.snd.fst=some q from g1,Bq];rcases h with ⟨hA,hT,hN,_⟩ | ⟨hne,_⟩;rotate_left
 ·exact absurd hr0 hne
 have hBk:=hA.blk;have hn:=ZeL hBk;have hok:=Zu1 hA.ord;rcases hq with ⟨q0,hI⟩ | ⟨q1,q2,⟨q3,_⟩ | ⟨_,q4,_⟩⟩;rotate_left
 ·rw[if_neg (by omega),q3]
  rfl
 ·exact absurd hA q4
 rw[if_pos q0];obtain ⟨r2,n2,f1,_,_,_,_,h2⟩:=ZCp b c br l q.1 nd hB hC (by omega) (by omega) (by omega);rw[show ZB3 (b,c,br,l,t,nd).fst (b,c,br,l,t,nd).snd.fst (b,c,br,l,t,nd).snd.snd.fst (b,c,br,l,t,nd).snd.snd.snd.fst q.fst (b,c,br,l,t,nd).snd.snd.snd.snd.snd=some r2 from f1,Bq];obtain ⟨v,_,hv⟩:=Zs9 hBk;have hsame:=ZCA (b:=b) (c:=c) (live:=Jo b br) (l:=l) (dirty:=nd) (hst hA hv) hI.tb (Zay b br).1 [] (List.replicate (XF b) false) hok.inn (λu hu=>⟨hI.right u (hok.inn u hu).1 (hok.inn u hu).2,hI.good u (hok.inn u hu).1 (hok.inn u hu).2⟩) ZCy;rw[List.nil_append] at hsame;rw[hsame] at h2;have hr2:r2=(q.1,(Zay b br).1.filter (λu=>decide (u∈nd)),0):=by
  rcases h2 with ⟨_,_,_,⟨z1,z2⟩ | ⟨_,_,_,z⟩⟩ | ⟨_,_,_,⟨_,_,_,z⟩ | z⟩
  ·injection z2 with _ z2
   injection z2 with z2 z3
   obtain ⟨a1,a2,a3⟩:=r2;have z1:a3=0:=z1;have z2:a2=_:=z2;have z3:a1=_:=z3;rw[z1,z2,z3]
  ·cases z
  ·exact absurd hA.ord z
  ·exact absurd ⟨hA.pre,hI.ZDS,hN⟩ z
 have hlen2:((Zay b br).1.filter (λu=>decide (u∈nd))).length=nd.length:=ZCE (hok.nd.filter _) (ZDz hN.2) λx=>by
  rw[List.mem_filter,decide_eq_true_eq];exact ⟨λz=>z.2,λz=>⟨hok.all x (hN.1 x z).1 (by have:=(hN.1 x z).2;omega),z⟩⟩
 have hcnt:ZCe b=some (XF b:Int):=by
  unfold ZCe;rw[Va b hB,Bq,if_pos (ZU hBk.ok),Zdz hBk];rfl
 have hri:∀ k,k<=XF b->(ZnP k).length=k:=λk _=>ZqU k;have hris:Zj0 (XF b:Int) (ZnP (XF b)):=by
  refine ⟨λx hx=>by have:=ZlT.1 hx;omega,λk x y hx hy=>?_⟩;unfold ZnP at hx hy;rw[List.getElem?_map,Option.map_eq_some_iff] at hx hy;obtain ⟨i,hi,rfl⟩:=hx;obtain ⟨j,hj,rfl⟩:=hy;have e3:=(List.getElem?_eq_some_iff.1 hi).2;have e4:=(List.getElem?_eq_some_iff.1 hj).2;rw[List.getElem_range] at e3 e4;omega
 obtain ⟨r3,n3,k1,_,_,_,_,h3⟩:=ZCp b c br l t (ZnP (XF b)) hB hC (by omega) (by omega) (by rw[ZqU];omega);obtain ⟨u1,u2⟩:=ZDC (b:=b) (c:=c) (br:=br) (l:=l) (t:=t) (dirty:=ZnP (XF b)) (C:=λ_=>True) hA hT (λu h0 h1 z=>absurd (ZlT.2 ⟨h0,h1⟩) z) (λ_ _=>trivial) (λ_ _ _ _ _=>trivial);have hrun:=u2 q.1 hI;obtain ⟨w1,w2,w3,_⟩:=u1 hrun;have hr3:r3.2.2=0/\r3.1=q.1/\r3.2.1.length=XF b:=by
  rcases h3 with ⟨_,_,_,⟨z1,z2⟩ | ⟨_,_,_,z⟩⟩ | ⟨_,_,_,⟨_,_,_,z⟩ | z⟩
  ·rw[<-z2] at w1 w2 w3
   refine ⟨z1,w1.unique hI,?_⟩;have:=ZCE (hok.nd.sublist w2) hok.nd λx=>⟨λz=>w2.subset z,λz=>w3 x (hok.inn x z).1 (hok.inn x z).2 (ZlT.2 (hok.inn x z))⟩;rw[hok.len] at this;exact this
  ·rw[hrun] at z;cases z
  ·exact absurd hA.ord z
  ·exact absurd ⟨hA.pre,hT,hris⟩ z
 obtain ⟨wr,m1,_,_,hw⟩:=Zq8 b c br l q.1 hB hC (by omega) (by omega);have hwr:wr.2=0/\wr.1=[]:=by
  rcases hw with ⟨z0,_,_,z1⟩ | ⟨z0,z1⟩
  ·exact ⟨z0,by rw[z1];exact Zl9.2 λk hk=>hI.right _ (by omega) (by omega)⟩
  ·exfalso
   rcases Zwj b c br l q.1 hB hC (by omega) (by omega) with ⟨code',hne',y1,y2,y3⟩ | ⟨v',_,_,hv',y1,y2⟩
   ·rcases y3 with ⟨_,_,_,y3⟩ | y3
    ·exact y3 hA.ord
    ·exact y3 ⟨hA.pre,by have:=hI.ZDS;rwa [show (XF b:Int)=2*((places (Zc.Design b)).length:Int) by have:=nN b;omega] at this⟩
   ·unfold Zap at m1
    rw[y1,Bq,if_pos rfl,Bq] at m1;have:=hA.blk;obtain ⟨w1',w2'⟩:=Zo8 hA (Zz6 (b:=b) (t:=q.1) (by have:=hI.ZDS;rwa [show (XF b:Int)=2*((places (Zc.Design b)).length:Int) by have:=nN b;omega] at this)) hv' (by omega);rw[show YA (Ya.view ((v',Jo b br,()):Ya))=some (XF b:Int) from ZmL hBk hv',Bq] at m1;rw[show (Zp (λv_1=>XL c l q.1 ((v',Jo b br,()):Ya) (XF b:Int) v_1.1 v_1.2.1) (([]:List Int),(0:Int),()))=_ from w2'] at m1;injection m1 with m1
    rw[<-m1] at z0;exact z0 rfl
 refine Yv (XF b) (λk u=>u=(ZnP k,(k:Int),())) _ rfl ?_ ?_
 ·rintro k _ hk rfl
  refine .inl ⟨_,?_,rfl⟩;show ZB5 (b,c,br,l,t,nd) q r2 (ZnP k) (k:Int)=_;unfold ZB5;rw[show ZCe (b,c,br,l,t,nd).fst=some (XF b:Int) from hcnt,Bq,if_pos (by omega),Zn (by rw[ZqU];simp only[List.length_cons,List.length_nil];omega),Y8 (by omega)];congr 3;unfold ZnP;rw[List.range_succ,List.map_append];rfl
 ·rintro _ rfl
  show ZB5 (b,c,br,l,t,nd) q r2 (ZnP (XF b)) (XF b:Int)=_;unfold ZB5;rw[show ZCe (b,c,br,l,t,nd).fst=some (XF b:Int) from hcnt,Bq,if_neg (Int.lt_irrefl _),show ZB3 (b,c,br,l,t,nd).fst (b,c,br,l,t,nd).snd.fst (b,c,br,l,t,nd).snd.snd.fst (b,c,br,l,t,nd).snd.snd.snd.fst (b,c,br,l,t,nd).snd.snd.snd.snd.fst (ZnP (XF b))=some r3 from k1,Bq,hr3.2.1,show Zap (b,c,br,l,t,nd).fst (b,c,br,l,t,nd).snd.fst (b,c,br,l,t,nd).snd.snd.fst (b,c,br,l,t,nd).snd.snd.snd.fst q.fst=some wr from m1,Bq,hr2];have w5:=ZzJ hI.tb hI.tb (by omega);rw[ZU rfl] at w5;rw[if_pos rfl,if_pos hr3.1,if_pos hwr.1,show Zcq (q.fst,(Zay b br).1.filter (λu=>decide (u∈nd)),(0:Int)).fst q.fst=some true from w5,Bq,if_pos rfl,if_pos (by
   show (((Zay b br).1.filter (λu=>decide (u∈nd))).length:Int)=(nd.length:Int);rw[hlen2])]
  show (if true=true then (if (r3.2.1.length:Int)=((ZnP (XF b)).length:Int) then some (Sum.inr (decide ((wr.1.length:Int)=0))) else some (Sum.inr false)) else some (Sum.inr false):Option ((List Int×Int×Unit) ⊕ Bool))=_;rw[if_pos rfl,if_pos (by rw[hr3.2.2,ZqU]),hwr.2];rfl
end Go.Proofs.YtgjjlgodlhhdoaaGreatDoor
