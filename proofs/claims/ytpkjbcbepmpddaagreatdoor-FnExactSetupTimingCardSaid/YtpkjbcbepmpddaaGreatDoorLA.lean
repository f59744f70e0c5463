/-
  Ground of the plain laws: loops by what they come to; small arithmetic.
-/
import Derived.Test.YtpkjbcbepmpddaaGreatDoorE1
import Derived.IntWalk
import Derived.Test.YtpkjbcbepmpddaaGreatDoorSxSort
import Derived.Test.YtpkjbcbepmpddaaGreatDoorM
namespace Go.Proofs.YtpkjbcbepmpddaaGreatDoor
set_option linter.unusedVariables false
set_option linter.unusedSimpArgs false
open Go Go.Sx
theorem YT {n:Int} (h1:-9223372036854775808<=n) (h2:n<=9223372036854775807):Wq n=n:=IntWalk.i64_in n ⟨h1,h2⟩
theorem Zp {α:Type} (l:List α) (k:Nat):atI l (k:Int)=l[k]?:=by simp[atI]
theorem QF {α:Type} {l:List α} {i:Int} {x:α} (h0:0<=i) (hx:l[i.toNat]?=some x):atI l i=some x:=by simp[atI,h0,hx]
theorem Zme {α:Type} {l:List α} {i:Int} (h0:0<=i) (h1:i<l.length):∃ x,atI l i=some x/\l[i.toNat]?=some x :=
 ⟨l[i.toNat]'(by omega),by simp[atI,h0],List.getElem?_eq_getElem _⟩
theorem Zh {α:Type} {p:Prop} (h:p) (a:Option α):Zy p a=a:=by
 unfold Zy;exact if_pos h
theorem Zar {τ ρ:Type} {step:τ->Option (τ ⊕ ρ)} (n:Nat) (I:Nat->τ->Prop) (Q:ρ->Prop) {v:τ} (h0:I 0 v)
  (hs:∀ k v,k<n->I k v->(∃ v',step v=some (.inl v')/\I (k+1) v')\/∃ r,step v=some (.inr r)/\Q r)
  (hx:∀ v,I n v->∃ r,step v=some (.inr r)/\Q r):∃ r,Zo step v=some r/\Q r:=by
 have:∀ m k v,k+m=n->I k v->∃ r,Zo step v=some r/\Q r:=by
  intro m;induction m with
  | zero =>
   intro k v hk hI;have:k=n:=by omega
   subst this;obtain ⟨r,e,hq⟩:=hx v hI;exact ⟨r,YI e,hq⟩
  | succ m ih =>
   intro k v hk hI;rcases hs k v (by omega) hI with ⟨v',e,hI'⟩ | ⟨r,e,hq⟩
   ·obtain ⟨r,h1,h2⟩:=ih (k+1) v' (by omega) hI'
    exact ⟨r,by rw[Y1 e];exact h1,h2⟩
   ·exact ⟨r,YI e,hq⟩
 exact this n 0 v (by omega) h0
theorem Yb {τ ρ:Type} {step:τ->Option (τ ⊕ ρ)} (n:Nat) (I:Nat->τ->Prop) (R:ρ) {v:τ} (h0:I 0 v)
  (hs:∀ k v,k<n->I k v->(∃ v',step v=some (.inl v')/\I (k+1) v')\/step v=some (.inr R))
  (hx:∀ v,I n v->step v=some (.inr R)):Zo step v=some R:=by
 obtain ⟨r,h1,h2⟩:=Zar n I (λr=>r=R) h0 (λk v hk hI=>(hs k v hk hI).elim .inl (λh=>.inr ⟨R,h,rfl⟩)) (λv hI=>⟨R,hx v hI,rfl⟩);rw[h1,h2]
theorem YP {α:Type} {l:List α} {k:Nat} {x:α} (hx:l[k]?=some x):l.take (k+1)=l.take k++[x]:=by
 rw[List.take_add_one,hx];rfl
theorem ZAT {ρ:Type} {g:Nat->Option ρ} {v:ρ} (h:∃ n,g n=some v) (hd:∀ n r,g n=some r->r=v):ZFM g=some v:=by
 obtain ⟨n,hn⟩:=h;unfold ZFM;have hx:∃ r n,g n=some r:=⟨v,n,hn⟩;grind
def sm:(t:Ty)->t.den->Prop
 | .str,s=>(s.length:Int)<=1048576
 | .sl t,l=>(l.length:Int)<=1048576/\∀ x∈l,sm t x
 | .pair a b,d=>sm a d.1/\sm b d.2
 | _,_=>True
def Szd (o:Option Int) (left:Int) (P:Prop):Prop:=∃ n,o=some n/\n<=left/\(0<=n->P)
theorem Szd.mono {o:Option Int} {left:Int} {P Q:Prop} (h:Szd o left P) (hpq:P->Q):Szd o left Q:=by
 obtain ⟨n,a,b,c⟩:=h;exact ⟨n,a,b,λh=>hpq (c h)⟩
theorem Szd.then {o:Option Int} {left:Int} {P Q:Prop} (h:Szd o left P) (h0:0<=left) (hl:left<=1048576) {F:Int->Option Int} (h2:∀ n,0<=n->n<=1048576->P->Szd (F n) n Q) :
  Szd (o.bind λn=>if n<0 then some (-1) else F n) left Q:=by
 obtain ⟨n,e,hle,hP⟩:=h;rw[e,Bq];split
 ·rename_i hn
  exact ⟨-1,rfl,by omega,λh=>by omega⟩
 ·rename_i hn
  obtain ⟨m,e2,h3,h4⟩:=h2 n (by omega) (by omega) (hP (by omega));exact ⟨m,e2,by omega,h4⟩
theorem Szd.last {o:Option Int} {left:Int} {P Q:Prop} (h:Szd o left P) (hl:0<=left) (hpq:P->Q):Szd (o.bind λn=>if n<0 then some (-1) else some n) left Q:=by
 obtain ⟨n,e,hle,hP⟩:=h;rw[e,Bq];split
 ·rename_i hn
  exact ⟨-1,rfl,by omega,λh=>by omega⟩
 ·exact ⟨n,rfl,hle,λh=>hpq (hP h)⟩
theorem Szd.len {left n:Int} {Q:Prop} {B:Option Int} (h0:0<=left) (hl:left<=1048576) (hn:0<=n) (hb:n<=9223372036854775807)
  (h2:Wq (left-n)=left-n->0<=left-n->left-n<=1048576->n<=1048576->Szd B (left-n) Q) :
  Szd (if Wq (left-n)<0 then some (-1) else B) left Q:=by
 have hw:=YT (n:=left-n) (by omega) (by omega);rw[hw];split
 ·rename_i hn
  exact ⟨-1,rfl,by omega,λh=>by omega⟩
 ·rename_i hn
  obtain ⟨m,e2,h3,h4⟩:=h2 hw (by omega) (by omega) (by omega);exact ⟨m,e2,by omega,h4⟩
theorem Szd.ret {left:Int} {P:Prop} (h:P):Szd (some left) left P:=⟨left,rfl,Int.le_refl _,λ_=>h⟩
theorem Szd.loop {α:Type} {l:List α} {f:α->Int->Option Int} {P:α->Prop} {step:Int×Int×Unit->Option ((Int×Int×Unit) ⊕ Int)}
  (hf:∀ x∈l,∀ m,0<=m->m<=1048576->Szd (f x m) m (P x))
  (hstep:∀ (k:Nat) (m:Int),step (m,(k:Int),())=if (k:Int)<(l.length:Int) then (atI l (k:Int)).bind λx=>(f x m).bind λn=>if n<0 then some (.inr (-1)) else some (.inl (n,Wq ((k:Int)+1),())) else some (.inr m))
  {left:Int} (h0:0<=left) (h1:left<=1048576) (hl:(l.length:Int)<=1048576):Szd (Zo step (left,0,())) left (∀ x∈l,P x):=by
 unfold Szd;refine Zar l.length (λk v=>v.2.1=(k:Int)/\0<=v.1/\v.1<=left/\∀ x∈l.take k,P x) (λn=>n<=left/\(0<=n->∀ x∈l,P x)) ⟨rfl,h0,Int.le_refl _,by simp⟩ ?_ ?_
 ·rintro k ⟨m,i,⟨⟩⟩ hk ⟨hi,hm0,hm1,hP⟩
  simp only at hi hm0 hm1;subst hi;have hx:l[k]?=some l[k]:=List.getElem?_eq_getElem hk;generalize l[k]=x at hx;rw[hstep,if_pos (by omega),Zp,hx,Bq];obtain ⟨n,e,hn,hPx⟩:=hf x (List.mem_of_getElem? hx) m hm0 (by omega);rw[e,Bq];split
  ·grind
  ·rw[YT (by omega) (by omega)]
   refine .inl ⟨_,rfl,by simp,by dsimp only;omega,by dsimp only;omega,?_⟩;rw[YP hx];grind
 grind
theorem ZaM {α:Type} {l:List α} {f:α->Option α} {z:α} {step:Int×List α×Unit->Option ((Int×List α×Unit) ⊕ List α)} (hf:∀ x∈l,f x=some x)
  (hstep:∀ (k:Nat) (out:List α),step ((k:Int),out,())=if (k:Int)<(l.length:Int) then (atI l (k:Int)).bind λx=>(f x).bind λy=>(atI out (k:Int)).bind λ_=>some (.inl (Wq ((k:Int)+1),List.set out (Int.toNat (k:Int)) y,())) else some (.inr out))
  (hl:(l.length:Int)<=1048576):Zo step (0,List.replicate (Int.toNat (l.length:Int)) z,())=some l:=by
 refine Yb l.length (λk v=>v.1=(k:Int)/\v.2.1.length=l.length/\v.2.1.take k=l.take k) _ ⟨rfl,by simp,by simp⟩ ?_ ?_
 ·rintro k ⟨i,out,⟨⟩⟩ hk ⟨hi,hlen,ht⟩
  simp only at hi hlen ht;subst hi;have hx:l[k]?=some l[k]:=List.getElem?_eq_getElem hk;generalize l[k]=x at hx;have hy:out[k]?=some (out[k]'(by omega)):=List.getElem?_eq_getElem (by omega);rw[hstep,if_pos (by omega),Zp,hx,Bq,hf x (List.mem_of_getElem? hx),Bq,Zp,hy,Bq,YT (by omega) (by omega)];refine .inl ⟨_,rfl,by simp,by simp[hlen],?_⟩;have hx2:(out.set k x)[k]?=some x:=by grind
  simp only[Int.toNat_natCast];rw[YP hx2,YP hx,List.take_set,ht];rw[List.set_eq_of_length_le (by simp;omega)]
 grind
theorem ZxC {α:Type} [DecidableEq α] {l:List α} {step:Int×Unit->Option ((Int×Unit) ⊕ Bool)}
  (hstep:∀ (k:Nat),step ((k:Int),())=if (k:Int)<(l.length:Int) then (atI l (k:Int)).bind λx=>(atI l (k:Int)).bind λy=>if x=y then some (.inl (Wq ((k:Int)+1),())) else some (.inr false) else some (.inr true))
  (hl:(l.length:Int)<=1048576):Zo step (0,())=some true:=by
 refine Yb l.length (λk v=>v.1=(k:Int)) _ rfl ?_ ?_
 ·rintro k ⟨i,⟨⟩⟩ hk hi
  simp only at hi;subst hi;have hx:l[k]?=some l[k]:=List.getElem?_eq_getElem hk;generalize l[k]=x at hx;rw[hstep,if_pos (by omega),Zp,hx,Bq,Bq,if_pos rfl,YT (by omega) (by omega)];grind
 grind
theorem ZB1 {l:List Bool} {step:Int×Unit->Option ((Int×Unit) ⊕ Bool)}
  (hstep:∀ (k:Nat),step ((k:Int),())=if (k:Int)<(l.length:Int) then (atI l (k:Int)).bind λx=>(atI l (k:Int)).bind λy=>if (x == y)=true then some (.inl (Wq ((k:Int)+1),())) else some (.inr false) else some (.inr true))
  (hl:(l.length:Int)<=1048576):Zo step (0,())=some true:=by
 refine Yb l.length (λk v=>v.1=(k:Int)) _ rfl ?_ ?_
 ·rintro k ⟨i,⟨⟩⟩ hk hi
  simp only at hi;subst hi;have hx:l[k]?=some l[k]:=List.getElem?_eq_getElem hk;generalize l[k]=x at hx;rw[hstep,if_pos (by omega),Zp,hx,Bq,Bq,if_pos (by simp),YT (by omega) (by omega)];grind
 grind
def Ty.fixed:Ty->Bool
 | .str=>false
 | .sl _=>false
 | .ptr _=>true
 | .fn _ _=>true
 | .pair a b=>Ty.fixed a&&Ty.fixed b
 | _=>true
theorem Y4:∀ (t:Ty),Ty.fixed t=true->∀ d:t.den,sm t d
 | .int _,_,_=>trivial
 | .bool,_,_=>trivial
 | .unit,_,_=>trivial
 | .ptr _,_,_=>trivial
 | .fn _ _,_,_=>trivial
 | .nptr _,_,_=>trivial
 | .mp _ _,_,_=>trivial
 | .str,h,_=>by simp[Ty.fixed] at h
 | .sl _,h,_=>by simp[Ty.fixed] at h
 | .pair a b,h,d=>by
  simp only[Ty.fixed,Bool.and_eq_true] at h;exact ⟨Y4 a h.1 d.1,Y4 b h.2 d.2⟩
theorem ZgG {α:Type} {l:List α} {f:α->α->Option Bool} {step:Int×Unit->Option ((Int×Unit) ⊕ Bool)} (hf:∀ x∈l,f x x=some true)
  (hstep:∀ (k:Nat),step ((k:Int),())=if (k:Int)<(l.length:Int) then (atI l (k:Int)).bind λx=>(atI l (k:Int)).bind λy=>(f x y).bind λe=>if e=true then some (.inl (Wq ((k:Int)+1),())) else some (.inr false) else some (.inr true))
  (hl:(l.length:Int)<=1048576):Zo step (0,())=some true:=by
 refine Yb l.length (λk v=>v.1=(k:Int)) _ rfl ?_ ?_
 ·rintro k ⟨i,⟨⟩⟩ hk hi
  simp only at hi;subst hi;have hx:l[k]?=some l[k]:=List.getElem?_eq_getElem hk;generalize l[k]=x at hx;rw[hstep,if_pos (by omega),Zp,hx,Bq,Bq,hf x (List.mem_of_getElem? hx),Bq,if_pos rfl,YT (by omega) (by omega)];grind
 grind
noncomputable def tr (p:Prop):Bool:=@decide p (Classical.propDecidable p)
theorem Zqr {p:Prop} {b:Bool} (h:b=true<->p):tr p=b:=by
 unfold tr;grind
theorem Xx (p:Prop):tr p=true<->p:=by simp[tr]
theorem ZR {p:Prop} (h:p):tr p=true:=(Xx p).2 h
theorem ZP {p:Prop} (h:¬p):tr p=false:=by simp[tr,h]
def tot:(t:Ty)->t.den->Nat
 | .str,s=>s.length
 | .sl t,l=>l.length+(l.map (tot t)).sum
 | .pair a b,d=>tot a d.1+tot b d.2
 | _,_=>0
def Szt (o:Option Int) (left:Int) (T:Nat):Prop:=∀ n,o=some n->0<=n->n+(T:Int)<=left
theorem Szt.mono {o:Option Int} {left:Int} {T T':Nat} (h:Szt o left T) (ht:T'<=T):Szt o left T':=λn h1 h2=>by
 have:=h n h1 h2;omega
theorem Szt.then {o:Option Int} {left:Int} {T1 T2:Nat} (h:Szt o left T1) (h0:0<=left) (hl:left<=1048576) {F:Int->Option Int} (h2:∀ n,0<=n->n<=1048576->Szt (F n) n T2) :
  Szt (o.bind λn=>if n<0 then some (-1) else F n) left (T1+T2):=by
 intro m hm hm0;cases ho:o with
 | none=>rw[ho] at hm;cases hm
 | some n =>
  rw[ho,Bq] at hm;by_cases hn:n<0
  ·rw[if_pos hn] at hm;injection hm;omega
  ·rw[if_neg hn] at hm
   have a:=h n ho (by omega);have b:=h2 n (by omega) (by omega) m hm hm0;omega
theorem Szt.last {o:Option Int} {left:Int} {T:Nat} (h:Szt o left T):Szt (o.bind λn=>if n<0 then some (-1) else some n) left T:=by
 intro m hm hm0;cases ho:o with
 | none=>rw[ho] at hm;cases hm
 | some n =>
  rw[ho,Bq] at hm;by_cases hn:n<0
  ·rw[if_pos hn] at hm;injection hm;omega
  ·rw[if_neg hn] at hm
   injection hm with hm
   subst hm;exact h n ho hm0
theorem Szt.len {left n:Int} {T:Nat} {B:Option Int} (h0:0<=left) (hl:left<=1048576) (hn:0<=n) (hb:n<=9223372036854775807)
  (h2:Wq (left-n)=left-n->0<=left-n->left-n<=1048576->Szt B (left-n) T) :
  Szt (if Wq (left-n)<0 then some (-1) else B) left (n.toNat+T):=by
 have hw:=YT (n:=left-n) (by omega) (by omega);intro m hm hm0;rw[hw] at hm;by_cases hneg:left-n<0
 ·rw[if_pos hneg] at hm;injection hm;omega
 ·rw[if_neg hneg] at hm
  have:=h2 hw (by omega) (by omega) m hm hm0;omega
theorem Szt.ret {left:Int}:Szt (some left) left 0:=λn h _=>by injection h;omega
theorem Szt.loop {α:Type} {l:List α} {f:α->Int->Option Int} {P:α->Prop} {T:α->Nat} {step:Int×Int×Unit->Option ((Int×Int×Unit) ⊕ Int)}
  (hf:∀ x∈l,∀ m,0<=m->m<=1048576->Szd (f x m) m (P x)) (ht:∀ x∈l,∀ m,0<=m->m<=1048576->Szt (f x m) m (T x))
  (hstep:∀ (k:Nat) (m:Int),step (m,(k:Int),())=if (k:Int)<(l.length:Int) then (atI l (k:Int)).bind λx=>(f x m).bind λn=>if n<0 then some (.inr (-1)) else some (.inl (n,Wq ((k:Int)+1),())) else some (.inr m))
  {left:Int} (h0:0<=left) (h1:left<=1048576) (hl:(l.length:Int)<=1048576):Szt (Zo step (left,0,())) left (l.map T).sum:=by
 have:∃ r,Zo step (left,0,())=some r/\(0<=r->r+((l.map T).sum:Int)<=left):=by
  refine Zar l.length (λk v=>v.2.1=(k:Int)/\0<=v.1/\v.1+(((l.take k).map T).sum:Int)<=left) _ ⟨rfl,h0,by simp⟩ ?_ ?_
  ·rintro k ⟨m,i,⟨⟩⟩ hk ⟨hi,hm0,hm1⟩
   simp only at hi hm0 hm1;subst hi;have hx:l[k]?=some l[k]:=List.getElem?_eq_getElem hk;generalize l[k]=x at hx;rw[hstep,if_pos (by omega),Zp,hx,Bq];obtain ⟨n,e,hn,hPx⟩:=hf x (List.mem_of_getElem? hx) m hm0 (by omega);rw[e,Bq];split
   ·exact .inr ⟨-1,rfl,λh=>by omega⟩
   ·rename_i hneg
    have:=ht x (List.mem_of_getElem? hx) m hm0 (by omega) n e (by omega);rw[YT (by omega) (by omega)];refine .inl ⟨_,rfl,by simp,by dsimp only;omega,?_⟩;rw[YP hx,List.map_append,List.sum_append];simp only[List.map_cons,List.map_nil,List.sum_cons,List.sum_nil];omega
  ·rintro ⟨m,i,⟨⟩⟩ ⟨hi,hm0,hm1⟩
   simp only at hi hm0 hm1;subst hi;rw[List.take_length] at hm1;rw[hstep,if_neg (by omega)];exact ⟨m,rfl,λ_=>hm1⟩
 obtain ⟨r,h2,h3⟩:=this;intro n hn hn0;rw[h2] at hn;injection hn with hn
 subst hn;exact h3 hn0
theorem Zsi:∀ (t:Ty),Ty.fixed t=true->∀ d:t.den,tot t d=0
 | .int _,_,_=>rfl
 | .bool,_,_=>rfl
 | .unit,_,_=>rfl
 | .ptr _,_,_=>rfl
 | .fn _ _,_,_=>rfl
 | .nptr _,_,_=>rfl
 | .mp _ _,_,_=>rfl
 | .str,h,_=>by simp[Ty.fixed] at h
 | .sl _,h,_=>by simp[Ty.fixed] at h
 | .pair a b,h,d=>by
  simp only[Ty.fixed,Bool.and_eq_true] at h;simp only[tot,Zsi a h.1 d.1,Zsi b h.2 d.2]
theorem Zsh {t:Ty} (h:Ty.fixed t=true) (l:List t.den):(l.map (tot t)).sum=0:=by
 induction l with
 | nil=>rfl
 | cons x r ih=>simp only[List.map_cons,List.sum_cons,Zsi t h x,ih]
theorem Zb5 (a b:Ty) (d:(Ty.pair a b).den):tot (.pair a b) d=tot a d.1+tot b d.2:=rfl
theorem ZiK (t:Ty) (l:List t.den):tot (.sl t) l=l.length+(l.map (tot t)).sum:=rfl
theorem Zeo (s:List UInt8):tot .str s=s.length:=rfl
theorem Zfr (k:IntKind) (n:Int):tot (.int k) n=0:=rfl
theorem Zb4 (b:Bool):tot .bool b=0:=rfl
theorem Zb6 (b:Unit):tot .unit b=0:=rfl
theorem Szt.str (x:List UInt8) (m:Int) (m0:0<=m) (m1:m<=1048576) (hb:(x.length:Int)<=9223372036854775807) :
  Szt (if Wq (m-(x.length:Int))<0 then some (-1) else some (Wq (m-(x.length:Int)))) m (tot .str x):=by
 have h:Szt (if Wq (m-(x.length:Int))<0 then some (-1) else some (Wq (m-(x.length:Int)))) m ((x.length:Int).toNat+0) :=
  Szt.len m0 m1 (by omega) hb (λhw _ _=>by rw[hw];exact Szt.ret)
 refine h.mono ?_;rw[Zeo];omega
theorem Szd.str (x:List UInt8) (m:Int) (m0:0<=m) (m1:m<=1048576) (hb:(x.length:Int)<=9223372036854775807) :
  Szd (if Wq (m-(x.length:Int))<0 then some (-1) else some (Wq (m-(x.length:Int)))) m (sm .str x) :=
 Szd.len m0 m1 (by omega) hb (λhw _ _ hn=>by rw[hw];exact Szd.ret hn)
def cnt:(t:Ty)->t.den->Nat
 | .int _,_=>1
 | .bool,_=>1
 | .str,_=>1
 | .sl t,l=>(l.map (cnt t)).sum
 | .pair a b,d=>cnt a d.1+cnt b d.2
 | _,_=>0
theorem J5 (a b:Ty) (d:(Ty.pair a b).den):cnt (.pair a b) d=cnt a d.1+cnt b d.2:=rfl
theorem Zcb (s:List UInt8):cnt .str s=1:=rfl
theorem Zca (k:IntKind) (n:Int):cnt (.int k) n=1:=rfl
theorem J4 (b:Bool):cnt .bool b=1:=rfl
theorem J6 (b:Unit):cnt .unit b=0:=rfl
def wid:Ty->Nat
 | .int _=>1
 | .bool=>1
 | .str=>1
 | .pair a b=>wid a+wid b
 | _=>0
def Zfs:Ty->Nat
 | .sl t=>max (wid t) (Zfs t)
 | .pair a b=>max (Zfs a) (Zfs b)
 | _=>0
theorem Zte:∀ (t:Ty) (d:t.den),cnt t d<=wid t+Zfs t*tot t d
 | .int _,_=>by simp[cnt,wid]
 | .bool,_=>by simp[cnt,wid]
 | .str,_=>by simp[cnt,wid]
 | .unit,_=>by simp[cnt]
 | .ptr _,_=>by simp[cnt]
 | .fn _ _,_=>by simp[cnt]
 | .nptr _,_=>by simp[cnt]
 | .mp _ _,_=>by simp[cnt]
 | .pair a b,d=>by
  have h1:=Zte a d.1;have h2:=Zte b d.2;have h3:Zfs a*tot a d.1<=max (Zfs a) (Zfs b)*tot a d.1:=Nat.mul_le_mul_right _ (Nat.le_max_left _ _);have h4:Zfs b*tot b d.2<=max (Zfs a) (Zfs b)*tot b d.2:=Nat.mul_le_mul_right _ (Nat.le_max_right _ _);simp only[cnt,wid,Zfs,tot,Nat.mul_add];omega
 | .sl t,l=>by
  have:(l.map (cnt t)).sum<=wid t*l.length+Zfs t*(l.map (tot t)).sum:=by
   induction l with
   | nil=>simp
   | cons x r ih =>
    have:=Zte t x;simp only[List.map_cons,List.sum_cons,List.length_cons,Nat.mul_add];omega
  have h1:wid t*l.length<=max (wid t) (Zfs t)*l.length:=Nat.mul_le_mul_right _ (Nat.le_max_left _ _);have h2:Zfs t*(l.map (tot t)).sum<=max (wid t) (Zfs t)*(l.map (tot t)).sum:=Nat.mul_le_mul_right _ (Nat.le_max_right _ _);simp only[cnt,wid,Zfs,tot,Nat.mul_add];omega
def Mkd {α:Type} (o:Option (Int×α)) (k:Int) (c:Nat):Prop:=∃ a',o=some (k+(c:Int),a')
theorem ZdS {α:Type} {L:List α} {j:Nat} {y:α} (h:j<L.length):atI (List.set L j y) (j:Int)=some y:=by
 rw[Zp,List.getElem?_set_self h]
theorem Mkd.loop {α:Type} {l:List α} {c:α->Nat} {step:Int×Int×List α×Unit->Option ((Int×Int×List α×Unit) ⊕ (Int×List α))} {k:Int}
  (hstep:∀ (j:Nat) (m:Int) (x:α) (L:List α),j<L.length->(j:Int)<(L.length:Int)->L.length=l.length->L[j]?=some x->x∈l->0<=m->m+(c x:Int)<=4611686018427387904->(j:Int)<=1048576->∃ y,step (m,(j:Int),L,())=some (.inl (m+(c x:Int),((j+1:Nat):Int),List.set L j y,())))
  (hend:∀ (m:Int) (L:List α),L.length=l.length->step (m,(L.length:Int),L,())=some (.inr (m,L)))
  (hl:l.length<=1048576) (h0:0<=k) (h1:k+((l.map c).sum:Int)<=4611686018427387904):Mkd (Zo step (k,0,l,())) k (l.map c).sum:=by
 have:∃ r,Zo step (k,0,l,())=some r/\r.1=k+((l.map c).sum:Int):=by
  refine Zar l.length (λj v=>v.1=k+(((l.take j).map c).sum:Int)/\v.2.1=(j:Int)/\v.2.2.1.length=l.length/\∀ i,j<=i->v.2.2.1[i]?=l[i]?) _ ⟨by simp,rfl,rfl,λi _=>rfl⟩ ?_ ?_
  ·rintro j ⟨m,i,L,⟨⟩⟩ hj ⟨hm,hi,hL,hrest⟩
   simp only at hm hi hL hrest;subst hi;have hx:l[j]?=some l[j]:=List.getElem?_eq_getElem hj;have hsum:(l.map c).sum=((l.take j).map c).sum+(c l[j]+((l.drop (j+1)).map c).sum):=by
    have e:l=l.take j++(l[j]::l.drop (j+1)):=by rw[<-List.drop_eq_getElem_cons hj,List.take_append_drop]
    have e2:=congrArg (λl=>(l.map c).sum) e;simp only[List.map_append,List.sum_append,List.map_cons,List.sum_cons] at e2;exact e2
   obtain ⟨y,hy⟩:=hstep j m l[j] L (by omega) (by omega) hL (by rw[hrest j (Nat.le_refl _)];exact hx) (List.mem_of_getElem? hx) (by omega) (by omega) (by omega);left;refine ⟨_,hy,?_,rfl,by simp[hL],λi hi=>?_⟩
   ·rw[YP hx,List.map_append,List.sum_append]
    simp only[List.map_cons,List.map_nil,List.sum_cons,List.sum_nil];omega
   ·simp only
    rw[List.getElem?_set_ne (by omega)];exact hrest i (by omega)
  ·rintro ⟨m,i,L,⟨⟩⟩ ⟨hm,hi,hL,_⟩
   simp only at hm hi hL;subst hi;rw[List.take_length] at hm;rw[<-hL,hend m L hL];exact ⟨_,rfl,hm⟩
 obtain ⟨r,h2,h3⟩:=this;exact ⟨r.2,by rw[h2,<-h3]⟩
def mkL {α:Type} (f:α->Int->α) (c:α->Nat):List α->Int->List α
 | [],_=>[]
 | x::r,k=>f x k::mkL f c r (k+(c x:Int))
def mkA (mt:Int->List UInt8):(t:Ty)->t.den->Int->t.den
 | .int _,_,k=>k
 | .str,_,k=>mt k
 | .bool,_,k=>decide (Int.tmod k 3=0)
 | .pair a b,d,k=>(mkA mt a d.1 k,mkA mt b d.2 (k+(cnt a d.1:Int)))
 | .sl t,l,k=>mkL (mkA mt t) (cnt t) l k
 | .unit,d,_=>d
 | .ptr _,d,_=>d
 | .fn _ _,d,_=>d
 | .nptr _,d,_=>d
 | .mp _ _,d,_=>d
def ZyD:(t:Ty)->t.den->Nat
 | .pair a b,d=>ZyD a d.1+ZyD b d.2
 | .sl t,l=>cnt (.sl t) l
 | _,_=>0
def mkT (mt:Int->List UInt8):(t:Ty)->t.den->Int->t.den
 | .pair a b,d,k=>(mkT mt a d.1 k,mkT mt b d.2 (k+(ZyD a d.1:Int)))
 | .sl t,l,k=>mkL (mkA mt t) (cnt t) l k
 | .int _,d,_=>d
 | .str,d,_=>d
 | .bool,d,_=>d
 | .unit,d,_=>d
 | .ptr _,d,_=>d
 | .fn _ _,d,_=>d
 | .nptr _,d,_=>d
 | .mp _ _,d,_=>d
theorem Zji {α:Type} (f:α->Int->α) (c:α->Nat):∀ (l:List α) (k:Int),(mkL f c l k).length=l.length
 | [],_=>rfl
 | x::r,k=>by simp only[mkL,List.length_cons,Zji f c r]
theorem ZAv {α:Type} (f:α->Int->α) (c:α->Nat):∀ (l:List α) (k:Int) (j:Nat),(mkL f c l k)[j]?=(l[j]?).map (λx=>f x (k+(((l.take j).map c).sum:Int)))
 | [],k,j=>by simp[mkL]
 | x::r,k,0=>by simp[mkL]
 | x::r,k,j+1=>by
  simp only[mkL,List.getElem?_cons_succ,ZAv f c r,List.take_succ_cons,List.map_cons,List.sum_cons];congr 1;funext y;congr 1;omega
theorem Ztv {α:Type} (f:α->Int->α) (c:α->Nat):∀ (l r:List α) (k:Int),mkL f c (l++r) k=mkL f c l k++mkL f c r (k+((l.map c).sum:Int))
 | [],r,k=>by simp[mkL]
 | x::l,r,k=>by
  simp only[List.cons_append,mkL,Ztv f c l r,List.map_cons,List.sum_cons];congr 3;omega
theorem ZCp {α:Type} {f:α->Int->α} {c:α->Nat} {l:List α} {k:Int} {j:Nat} {x:α} (hx:l[j]?=some x):mkL f c (l.take (j+1)) k=mkL f c (l.take j) k++[f x (k+(((l.take j).map c).sum:Int))]:=by
 rw[YP hx,Ztv];rfl
theorem ZDf {α:Type} {l:List α} {f:α->Int->α} {c:α->Nat} {step:Int×Int×List α×Unit->Option ((Int×Int×List α×Unit) ⊕ (Int×List α))} {k:Int}
  (hstep:∀ (j:Nat) (m:Int) (x:α) (L:List α),j<L.length->(j:Int)<(L.length:Int)->L[j]?=some x->x∈l->0<=m->m+(c x:Int)<=4611686018427387904->(j:Int)<=1048576->step (m,(j:Int),L,())=some (.inl (m+(c x:Int),((j+1:Nat):Int),List.set L j (f x m),())))
  (hend:∀ (m:Int) (L:List α),step (m,(L.length:Int),L,())=some (.inr (m,L)))
  (hl:l.length<=1048576) (h0:0<=k) (h1:k+((l.map c).sum:Int)<=4611686018427387904):Zo step (k,0,l,())=some (k+((l.map c).sum:Int),mkL f c l k):=by
 refine Yb l.length (λj v=>v.1=k+(((l.take j).map c).sum:Int)/\v.2.1=(j:Int)/\v.2.2.1=mkL f c (l.take j) k++l.drop j) _ ⟨by simp,rfl,by simp[mkL]⟩ ?_ ?_
 ·rintro j ⟨m,i,L,⟨⟩⟩ hj ⟨hm,hi,hL⟩
  simp only at hm hi hL;subst hi;have hx:l[j]?=some l[j]:=List.getElem?_eq_getElem hj;generalize hxv:l[j]=x at hx;have hlen:(mkL f c (l.take j) k).length=j:=by rw[Zji,List.length_take];omega
  have hd:l.drop j=x::l.drop (j+1):=by rw[List.drop_eq_getElem_cons hj,hxv]
  have hLl:L.length=l.length:=by rw[hL,List.length_append,hlen,List.length_drop];omega
  have hLx:L[j]?=some x:=by rw[hL,List.getElem?_append_right (by omega),hlen,Nat.sub_self,hd];rfl
  have hsum:(l.map c).sum=((l.take j).map c).sum+(c x+((l.drop (j+1)).map c).sum):=by
   have e:l=l.take j++(x::l.drop (j+1)):=by rw[<-hd,List.take_append_drop]
   have e2:=congrArg (λl=>(l.map c).sum) e;simp only[List.map_append,List.sum_append,List.map_cons,List.sum_cons] at e2;exact e2
  left;refine ⟨_,hstep j m x L (by omega) (by omega) hLx (List.mem_of_getElem? hx) (by omega) (by omega) (by omega),?_,rfl,?_⟩
  ·rw[YP hx,List.map_append,List.sum_append]
   simp only[List.map_cons,List.map_nil,List.sum_cons,List.sum_nil];omega
  ·simp only
   rw[hL,ZCp hx,List.set_append,if_neg (by omega),hlen,Nat.sub_self,hd,hm];simp
 ·rintro ⟨m,i,L,⟨⟩⟩ ⟨hm,hi,hL⟩
  simp only at hm hi hL;subst hi;rw[List.take_length,List.drop_length,List.append_nil] at hL;rw[List.take_length] at hm;subst hL;rw[<-Zji f c l k,hend,hm]
theorem ZxM {α:Type} {l:List α} {f:α->Int->α} {c:α->Nat} {step:Int×Int×Unit->Option ((Int×Int×Unit) ⊕ Int)} {k:Int}
  (hstep:∀ (j:Nat) (m:Int) (x:α),(j:Int)<((mkL f c l k).length:Int)->(mkL f c l k)[j]?=some (f x m)->x∈l->0<=m->m+(c x:Int)<=4611686018427387904->(j:Int)<=1048576->step (m,(j:Int),())=some (.inl (m+(c x:Int),((j+1:Nat):Int),())))
  (hend:∀ (m:Int),step (m,((mkL f c l k).length:Int),())=some (.inr m))
  (hl:l.length<=1048576) (h0:0<=k) (h1:k+((l.map c).sum:Int)<=4611686018427387904):Zo step (k,0,())=some (k+((l.map c).sum:Int)):=by
 refine Yb l.length (λj v=>v.1=k+(((l.take j).map c).sum:Int)/\v.2.1=(j:Int)) _ ⟨by simp,rfl⟩ ?_ ?_
 ·rintro j ⟨m,i,⟨⟩⟩ hj ⟨hm,hi⟩
  simp only at hm hi;subst hi;have hx:l[j]?=some l[j]:=List.getElem?_eq_getElem hj;generalize hxv:l[j]=x at hx;have hsum:(l.map c).sum=((l.take j).map c).sum+(c x+((l.drop (j+1)).map c).sum):=by
   have hd:l.drop j=x::l.drop (j+1):=by rw[List.drop_eq_getElem_cons hj,hxv]
   have e:l=l.take j++(x::l.drop (j+1)):=by rw[<-hd,List.take_append_drop]
   have e2:=congrArg (λl=>(l.map c).sum) e;simp only[List.map_append,List.sum_append,List.map_cons,List.sum_cons] at e2;exact e2
  left;refine ⟨_,hstep j m x (by rw[Zji];omega) (by rw[ZAv,hx,hm];rfl) (List.mem_of_getElem? hx) (by omega) (by omega) (by omega),?_,rfl⟩;rw[YP hx,List.map_append,List.sum_append];simp only[List.map_cons,List.map_nil,List.sum_cons,List.sum_nil];omega
 ·rintro ⟨m,i,⟨⟩⟩ ⟨hm,hi⟩
  simp only at hm hi;subst hi;rw[List.take_length] at hm;rw[<-Zji f c l k,hend,hm]
theorem Zws:∀ (t:Ty) (d:t.den),ZyD t d<=cnt t d
 | .pair a b,d=>Nat.add_le_add (Zws a d.1) (Zws b d.2)
 | .sl t,l=>Nat.le_refl _
 | .int _,_=>Nat.zero_le _
 | .bool,_=>Nat.zero_le _
 | .str,_=>Nat.zero_le _
 | .unit,_=>Nat.zero_le _
 | .ptr _,_=>Nat.zero_le _
 | .fn _ _,_=>Nat.zero_le _
 | .nptr _,_=>Nat.zero_le _
 | .mp _ _,_=>Nat.zero_le _
theorem ZEj {l:List Int} {x:Int}:x∈srt l<->x∈l:=List.mem_mergeSort
def Len {α:Type} (l:List α):Prop:=l.length<=4611686018427387904
theorem Zzv {k:Nat} {α:Type} {l:List α} (hl:Len l) (hk:k<=l.length):Wq ((k:Int)+1)=((k+1:Nat):Int):=by
 have:l.length<=4611686018427387904:=hl;rw[YT (by omega) (by omega)];simp
def Za5 {α:Type} (p:α->Bool) (l:List α):Int:=match l.findIdx? p with
 | some i=>i
 | none=>-1
theorem Zz5 {α:Type} {p:α->Bool} {l:List α}:Za5 p l<l.length:=by
 unfold Za5;split
 ·rename_i i h
  have:=(List.findIdx?_eq_some_iff_getElem.1 h).1;omega
 ·omega
theorem VL {α:Type} {p:α->Bool} {l:List α}:0<=Za5 p l<->l.any p=true:=by
 unfold Za5;grind
theorem Jv {α ρ:Type} {l:List α} (hl:Len l) {p:α->Bool} {step:Int×Unit->Option ((Int×Unit) ⊕ ρ)} {out:Int->ρ}
  (hs:∀ (k:Nat) (x:α),l[k]?=some x->step ((k:Int),())=some (if p x=true then .inr (out k) else .inl (Wq ((k:Int)+1),())))
  (hx:step ((l.length:Int),())=some (.inr (out (-1)))):Zo step (0,())=some (out (Za5 p l)):=by
 refine Yb l.length (λk v=>v.1=(k:Int)/\∀ x∈l.take k,p x=false) _ ⟨rfl,by simp⟩ ?_ ?_
 ·rintro k ⟨i,⟨⟩⟩ hk ⟨hi,hS⟩
  simp only at hi;subst hi;have hx:l[k]?=some l[k]:=List.getElem?_eq_getElem hk;rw[hs k _ hx,Zzv hl (by omega)];split
  ·rename_i hp
   right;have:l.findIdx? p=some k:=by
    rw[List.findIdx?_eq_some_iff_getElem];refine ⟨hk,hp,λj hj=>?_⟩;have:=hS l[j] (List.mem_iff_getElem?.2 ⟨j,by grind⟩);simp[this]
   unfold Za5;rw[this]
  ·rename_i hp
   refine .inl ⟨_,rfl,rfl,?_⟩;rw[YP hx];grind
 ·rintro ⟨i,⟨⟩⟩ ⟨hi,hS⟩
  simp only at hi;subst hi;rw[List.take_length] at hS;have:l.findIdx? p=none:=List.findIdx?_eq_none_iff.2 hS;rw[hx];unfold Za5;rw[this]
def Qe {α σ:Type} (f:Nat->α->σ->σ):Nat->List α->σ->σ
 | _,[],s=>s
 | k,x::r,s=>Qe f (k+1) r (f k x s)
theorem Zic {α σ:Type} (f:Nat->α->σ->σ):∀ (l r:List α) (m:Nat) (s:σ),Qe f m (l++r) s=Qe f (m+l.length) r (Qe f m l s)
 | [],r,m,s=>by simp[Qe]
 | x::l,r,m,s=>by
  simp only[List.cons_append,Qe,List.length_cons,Zic f l r];grind
theorem ZcN {α σ:Type} {f:Nat->α->σ->σ} {l:List α} {k:Nat} {x:α} (hx:l[k]?=some x) (s:σ):Qe f 0 (l.take (k+1)) s=f k x (Qe f 0 (l.take k) s):=by
 have hk:=(List.getElem?_eq_some_iff.1 hx).1;rw[YP hx,Zic];simp only[Qe,Nat.zero_add,List.length_take];grind
theorem ZbI {α σ τ ρ:Type} {l:List α} (hl:Len l) (pack:σ->Int->τ) {f:Nat->α->σ->σ} {step:τ->Option (τ ⊕ ρ)} {s0:σ} {R:ρ} (I:Nat->σ->Prop) (h0:I 0 s0)
  (hs:∀ (k:Nat) (x:α) (s:σ),l[k]?=some x->I k s->s=Qe f 0 (l.take k) s0->step (pack s (k:Int))=some (.inl (pack (f k x s) (Wq ((k:Int)+1))))/\I (k+1) (f k x s))
  (hx:∀ s,I l.length s->s=Qe f 0 l s0->step (pack s (l.length:Int))=some (.inr R)):Zo step (pack s0 0)=some R:=by
 refine Yb l.length (λk v=>v=pack (Qe f 0 (l.take k) s0) (k:Int)/\I k (Qe f 0 (l.take k) s0)) _ ⟨rfl,h0⟩ ?_ ?_
 ·rintro k _ hk ⟨rfl,hI⟩
  have hx:l[k]?=some l[k]:=List.getElem?_eq_getElem hk;obtain ⟨h1,h2⟩:=hs k _ _ hx hI rfl;rw[h1,Zzv hl (by omega)];exact .inl ⟨_,rfl,by rw[ZcN hx],by rw[ZcN hx];exact h2⟩
 grind
theorem ZqX {α β:Type} (g:α->β):∀ (l:List α) (m:Nat) (acc:List β),Qe (λ_ x s=>s++[g x]) m l acc=acc++l.map g
 | [],_,_=>by simp[Qe]
 | x::l,m,acc=>by simp[Qe,ZqX g l]
theorem Zx0 {α β τ ρ:Type} {l:List α} (hl:Len l) (pack:List β->Int->τ) {g:α->β} {step:τ->Option (τ ⊕ ρ)} {s0:List β} {R:ρ}
  (hs:∀ (k:Nat) (x:α),l[k]?=some x->∀ s,s=s0++(l.take k).map g->step (pack s (k:Int))=some (.inl (pack (s++[g x]) (Wq ((k:Int)+1)))))
  (hx:step (pack (s0++l.map g) (l.length:Int))=some (.inr R)):Zo step (pack s0 0)=some R:=by
 refine ZbI hl pack (f:=λ_ x s=>s++[g x]) (λ_ _=>True) trivial (λk x s hk _ he=>⟨hs k x hk s (by rw[he,ZqX]),trivial⟩) (λs _ he=>?_);rw[he,ZqX];exact hx
noncomputable def sel {ρ:Type} (P:Prop) (a b:ρ):ρ:=match tr P with
 | true=>a
 | false=>b
theorem XI {ρ:Type} {P:Prop} (h:P) (a b:ρ):sel P a b=a:=by simp[sel,ZR h]
theorem Xe {ρ:Type} {P:Prop} (h:¬P) (a b:ρ):sel P a b=b:=by simp[sel,ZP h]
theorem ZlC (P:Prop):sel P true false=tr P:=by
 by_cases h:P
 ·rw[XI h,ZR h]
 ·rw[Xe h,ZP h]
def Zfu {α:Type} (l:List α) (P:Nat->α->Prop):Prop:=∀ (k:Nat) (x:α),l[k]?=some x->P k x
theorem Vt {α ρ:Type} {l:List α} (hl:Len l) (P:Nat->α->Prop) {step:Int×Unit->Option ((Int×Unit) ⊕ ρ)} {bad good:ρ}
  (hs:∀ (k:Nat) (x:α),l[k]?=some x->k<l.length->(∀ (j:Nat) (y:α),j<k->l[j]?=some y->P j y)->(P k x->step ((k:Int),())=some (.inl (Wq ((k:Int)+1),())))/\(¬P k x->step ((k:Int),())=some (.inr bad)))
  (hx:Zfu l P->step ((l.length:Int),())=some (.inr good)):Zo step (0,())=some (sel (Zfu l P) good bad):=by
 refine Yb l.length (λk v=>v.1=(k:Int)/\∀ (j:Nat) (y:α),j<k->l[j]?=some y->P j y) _ ⟨rfl,λj y hj=>by omega⟩ ?_ ?_
 ·rintro k ⟨i,⟨⟩⟩ hk ⟨hi,hS⟩
  simp only at hi;subst hi;have hx:l[k]?=some l[k]:=List.getElem?_eq_getElem hk;obtain ⟨h1,h2⟩:=hs k _ hx hk hS;by_cases hP:P k l[k]
  ·rw[h1 hP,Zzv hl (by omega)]
   grind
  ·right
   rw[h2 hP,Xe (λh=>hP (h k _ hx))]
 ·rintro ⟨i,⟨⟩⟩ ⟨hi,hS⟩
  simp only at hi;subst hi;have hA:Zfu l P:=λk x hk=>hS k x (List.getElem?_eq_some_iff.1 hk).1 hk;rw[hx hA,XI hA]
theorem ZxY {ρ:Type} (m n:Nat) (hmn:m<=n) (hn:n<=4611686018427387904) (P:Nat->Prop) {step:Int×Unit->Option ((Int×Unit) ⊕ ρ)} {bad good:ρ}
  (hs:∀ k:Nat,m<=k->k<n->(∀ j,m<=j->j<k->P j)->(P k->step ((k:Int),())=some (.inl (Wq ((k:Int)+1),())))/\(¬P k->step ((k:Int),())=some (.inr bad)))
  (hx:(∀ j,m<=j->j<n->P j)->step ((n:Int),())=some (.inr good)):Zo step ((m:Int),())=some (sel (∀ j,m<=j->j<n->P j) good bad):=by
 refine Yb (n-m) (λk v=>v.1=((m+k:Nat):Int)/\∀ j,m<=j->j<m+k->P j) _ ⟨by simp,λj h1 h2=>by omega⟩ ?_ ?_
 ·rintro k ⟨i,⟨⟩⟩ hk ⟨hi,hS⟩
  simp only at hi;subst hi;obtain ⟨h1,h2⟩:=hs (m+k) (by omega) (by omega) hS;by_cases hP:P (m+k)
  ·rw[h1 hP,YT (by omega) (by omega)]
   grind
  ·right
   rw[h2 hP,Xe (λh=>hP (h (m+k) (by omega) (by omega)))]
 ·rintro ⟨i,⟨⟩⟩ ⟨hi,hS⟩
  simp only at hi;subst hi;have e:m+(n-m)=n:=by omega
  rw[e] at hS ⊢;rw[hx hS,XI hS]
def within (n a b:Int):Bool:=decide (a<=n)&&decide (n<=b)
theorem Jp (n a b:Int):ZV n a b=some (within n a b):=by
 unfold ZV within;split<;>simp[*]
theorem Zaj (n a b:Int):ZQ n a b=some (within n a b):=by
 unfold ZQ within;split<;>simp[*]
theorem QO (n a b:Int):within n a b=true<->a<=n/\n<=b:=by simp[within]
def ZiS (b:UInt8):Bool:=decide (97<=b.toNat)&&decide (b.toNat<=122)
def ZoN (b:UInt8):Bool:=decide (48<=b.toNat)&&decide (b.toNat<=57)
def Za9 (s:List UInt8):Bool:=decide (1<=s.length)&&decide (s.length<=8)&&s.all (λb=>ZiS b||ZoN b)&&(match s with
 | b::_=>ZiS b
 | []=>false)
def Zu3 (s:List UInt8) (i:Nat):Prop:=∀ (j:Nat) (b:UInt8),j<i->s[j]?=some b->(ZiS b||ZoN b)=true/\(j=0->ZiS b=true)
theorem Zw2 {s:List UInt8} {i:Nat} {x:UInt8} (h:Zu3 s i) (hx:s[i]?=some x) (h1:(ZiS x||ZoN x)=true) (h2:i=0->ZiS x=true):Zu3 s (i+1):=by
 intro j b hj hb;by_cases e:j<i
 ·exact h j b e hb
 ·have:j=i:=by omega
  subst this;rw[hx] at hb;injection hb with hb;subst hb
  exact ⟨h1,h2⟩
theorem Zuu {s:List UInt8} (h:Zu3 s s.length):Za9 s=(decide (1<=s.length)&&decide (s.length<=8)):=by
 unfold Za9;have h1:s.all (λb=>ZiS b||ZoN b)=true:=by
  rw[List.all_eq_true];intro b hb;obtain ⟨j,hj⟩:=List.mem_iff_getElem?.1 hb;exact (h j b (List.getElem?_eq_some_iff.1 hj).1 hj).1
 rw[h1];cases s with
 | nil=>rfl
 | cons b r =>
  have:=(h 0 b (by simp) rfl).2 rfl;simp[this]
theorem ZyV {s:List UInt8} {j:Nat} {b:UInt8} (hb:s[j]?=some b) (h:(ZiS b||ZoN b)=false\/j=0/\ZiS b=false):Za9 s=false:=by
 unfold Za9;rcases h with h | ⟨rfl,h⟩
 ·have:s.all (λb=>ZiS b||ZoN b)=false:=by
   rw[List.all_eq_false];exact ⟨b,List.mem_of_getElem? hb,by simp[h]⟩
  simp[this]
 ·cases s with
  | nil=>simp at hb
  | cons c r=>simp at hb;subst hb;simp[h]
theorem ZcD (s:List UInt8) (hl:s.length<=4611686018427387904):Zba s=some (Za9 s):=by
 unfold Zba;refine Yb s.length (λk v=>v.1=(k:Int)/\Zu3 s k) _ ⟨rfl,λj b hj=>by omega⟩ ?_ ?_
 ·rintro k ⟨i,⟨⟩⟩ hk ⟨rfl,hS⟩
  have hx:s[k]?=some s[k]:=List.getElem?_eq_getElem hk;generalize s[k]=x at hx;simp only[Zfh,Zp,hx,Bq,show (k:Int)<(s.length:Int) from by omega,if_true,YT (show (-9223372036854775808:Int)<=(k:Int)+1 by omega) (by omega)];have ok:(ZiS x||ZoN x)=true->(k=0->ZiS x=true)->(((k:Int)+1,()):Int×Unit).1=((k+1:Nat):Int)/\Zu3 s (k+1):=λh1 h2=>⟨by simp,Zw2 hS hx h1 h2⟩;have bad:((ZiS x||ZoN x)=false\/k=0/\ZiS x=false)->(some (Sum.inr false):Option (Int×Unit ⊕ Bool))=some (Sum.inr (Za9 s)):=λh=>by rw[ZyV hx h]
  simp only[ZiS,ZoN] at ok bad;repeat' split
  all_goals first
   | (left;refine ⟨_,rfl,ok ?_ ?_⟩<;>simp<;>omega)
   | (right;refine bad ?_;first | (left;simp;omega) | (right;simp;omega))
 ·rintro ⟨i,⟨⟩⟩ ⟨rfl,hS⟩
  simp only[Zfh,Int.lt_irrefl,if_false];rw[Zuu hS];split
  ·rename_i h
   have h1:1<=s.length:=by omega
   have h2:decide ((s.length:Int)<=8)=decide (s.length<=8):=by rw[decide_eq_decide];omega
   simp[h1,h2]
  ·have h1:¬1<=s.length:=by omega
   simp[h1]
theorem dropWhile_nil {p:UInt8->Bool}:∀ (m:List UInt8),(∀ x∈m.dropWhile p,p x=true)->∀ x∈m,p x=true
 | [],_=>by simp
 | a::m,h=>by
  by_cases ha:p a=true
  ·rw[List.dropWhile_cons_of_pos ha] at h
   intro x hx;rcases List.mem_cons.1 hx with rfl | hx
   ·exact ha
   ·exact dropWhile_nil m h x hx
  ·rw[List.dropWhile_cons_of_neg ha] at h
   exact absurd (h a (by simp)) ha
theorem ZnA {p:UInt8->Bool}:∀ (m:List UInt8),m.dropWhile p=[]<->∀ x∈m,p x=true
 | []=>by simp
 | a::m=>by
  by_cases ha:p a=true
  ·rw[List.dropWhile_cons_of_pos ha,ZnA m];simp[ha]
  ·rw[List.dropWhile_cons_of_neg ha];simp[ha]
theorem ZBi (s cs:List UInt8):Lib.trimS s cs=[]<->∀ b∈s,cs.contains b=true:=by
 unfold Lib.trimS Lib.trimLeftS Lib.trimRightS;rw[ZnA];constructor
 ·intro h b hb
  exact dropWhile_nil s.reverse (λx hx=>h x (List.mem_reverse.2 hx)) b (List.mem_reverse.2 hb)
 ·intro h b hb
  exact h b (List.mem_reverse.1 ((List.dropWhile_sublist _).subset (List.mem_reverse.1 hb)))
def letters:List UInt8:=[97,98,99,100,101,102,103,104,105,106,107,108,109,110,111,112,113,114,115,116,117,118,119,120,121,122]
def ZjL:List UInt8:=letters++[48,49,50,51,52,53,54,55,56,57]
theorem ZC3 {p:UInt8->Bool} (h:(List.range 256).all (λn=>p (UInt8.ofNat n))=true) (b:UInt8):p b=true:=by
 rw[List.all_eq_true] at h;have:=h b.toNat (List.mem_range.2 b.toNat_lt);simpa using this
theorem Zkn (b:UInt8):ZjL.contains b=(ZiS b||ZoN b):=by
 have:=ZC3 (p:=λb=>ZjL.contains b == (ZiS b||ZoN b)) (by decide +kernel) b;simpa using this
theorem Zwc (s:List UInt8):Lib.trimS s ZjL=[]<->s.all (λb=>ZiS b||ZoN b)=true:=by
 rw[ZBi,List.all_eq_true];simp only[Zkn]
theorem Zuh (b:UInt8):decide (0<=(Lib.indexByte letters b:Int))=ZiS b:=by
 have:=ZC3 (p:=λb=>decide (0<=(Lib.indexByte letters b:Int)) == ZiS b) (by decide +kernel) b;simpa using this
theorem ZiQ (s:List UInt8):Zfz s=some (Za9 s):=by
 unfold Zfz;rw[Jp,Bq];split
 ·rename_i h
  rw[QO] at h;rw[Zh (by omega)];split
  ·rename_i ht
   have ht':=(Zwc s).1 ht;cases s with
   | nil=>simp at h
   | cons b r =>
    have e:atI (b::r) (0:Int)=some b:=rfl;rw[e,Bq];have e1:((b.toNat:Int)).toNat.toUInt8=b:=by simp
    rw[e1];have h1:1<=(b::r).length:=by simp
    have h2:(b::r).length<=8:=by omega
    have:=Zuh b;unfold letters at this;rw[this];simp only[Za9,ht',decide_eq_true h1,decide_eq_true h2,Bool.true_and]
  ·rename_i ht
   have ht':¬s.all (λb=>ZiS b||ZoN b)=true:=λe=>ht ((Zwc s).2 e);simp only[Za9,Bool.eq_false_iff.2 ht',Bool.and_false,Bool.false_and]
 ·rename_i h
  rw[QO] at h;have:¬(1<=s.length/\s.length<=8):=by omega
  rw[eq_comm];congr 1;rw[Bool.eq_false_iff];intro hh;simp only[Za9,Bool.and_eq_true,decide_eq_true_eq] at hh;omega
theorem Zqk (l:List (List UInt8)) (s:List UInt8) (hl:l.length<=4611686018427387904):∃ r,Ve l s=some r/\(0<=r<->s∈l):=by
 unfold Ve;refine Zar l.length (λk v=>v.1=(k:Int)/\s ∉ l.take k) _ ⟨rfl,by simp⟩ ?_ ?_
 ·rintro k ⟨i,⟨⟩⟩ hk ⟨rfl,hS⟩
  have hx:l[k]?=some l[k]:=List.getElem?_eq_getElem hk;generalize l[k]=x at hx;simp only[Vf,Zp,hx,Bq,show (k:Int)<(l.length:Int) from by omega,if_true,YT (show (-9223372036854775808:Int)<=(k:Int)+1 by omega) (by omega)];split
  ·rename_i e;subst e
   exact .inr ⟨_,rfl,λ_=>List.mem_of_getElem? hx,λ_=>by simp⟩
  ·rename_i e
   exact .inl ⟨_,rfl,by simp,by rw[YP hx];simp[hS,e]⟩
 ·rintro ⟨i,⟨⟩⟩ ⟨rfl,hS⟩
  simp only[Vf,Int.lt_irrefl,if_false];refine ⟨_,rfl,λh=>by omega,λh=>absurd h (by simpa using hS)⟩
theorem Znd (l:List (List UInt8)) (s:List UInt8) (hl:l.length<=4611686018427387904):Qu l s=some (decide (s∈l)):=by
 obtain ⟨r,h1,h2⟩:=Zqk l s hl;unfold Qu;rw[h1,Bq];simp only[h2]
def Ji (l:List (List UInt8)) (k:Nat):Prop:=∀ (j:Nat) (s:List UInt8),j<k->l[j]?=some s->Za9 s=true/\s ∉ l.take j
theorem V5 (l:List (List UInt8)) (hl:l.length<=4611686018427387904):VN l=some (tr (Ji l l.length)):=by
 unfold VN;refine Yb l.length (λk v=>v.1=(k:Int)/\Ji l k) _ ⟨rfl,λj s hj=>by omega⟩ ?_ ?_
 ·rintro k ⟨i,⟨⟩⟩ hk ⟨rfl,hS⟩
  have hx:l[k]?=some l[k]:=List.getElem?_eq_getElem hk;generalize l[k]=x at hx;simp only[ZdW,Zp,hx,Bq,show (k:Int)<(l.length:Int) from by omega,if_true,YT (show (-9223372036854775808:Int)<=(k:Int)+1 by omega) (by omega),ZiQ];split
  ·rename_i hn
   rw[Zh (by omega),Zh (by omega)];simp only[Int.toNat_natCast,Int.toNat_zero,List.drop_zero,Nat.sub_zero];rw[Znd _ _ (by simp only[List.length_take];omega),Bq];split
   ·rename_i hm
    right;rw[ZP];intro hh;exact (hh k x hk hx).2 (by simpa using hm)
   ·rename_i hm
    refine .inl ⟨_,rfl,by simp,λj s hj hs=>?_⟩;by_cases e:j<k
    ·exact hS j s e hs
    ·have:j=k:=by omega
     subst this;rw[hx] at hs;injection hs with hs;subst hs
     exact ⟨hn,by simpa using hm⟩
  ·rename_i hn
   right;rw[ZP];intro hh;exact hn (hh k x hk hx).1
 ·rintro ⟨i,⟨⟩⟩ ⟨rfl,hS⟩
  simp only[ZdW,Int.lt_irrefl,if_false];rw[ZR hS]
def allIn (l:List Int) (lo hi:Int):Bool:=l.all (λn=>within n lo hi)
theorem ZcT (l:List Int) (lo hi:Int) (hl:l.length<=4611686018427387904):XO l lo hi=some (allIn l lo hi):=by
 have h1:∃ r,Yu l (lo,hi,())=some r/\(0<=r<->allIn l lo hi=false):=by
  unfold Yu;refine Zar l.length (λk v=>v.1=(k:Int)/\allIn (l.take k) lo hi=true) _ ⟨rfl,rfl⟩ ?_ ?_
  ·rintro k ⟨i,⟨⟩⟩ hk ⟨rfl,hS⟩
   have hx:l[k]?=some l[k]:=List.getElem?_eq_getElem hk;generalize l[k]=x at hx;simp only[YD,Zfx,Jp,Zp,hx,Bq,show (k:Int)<(l.length:Int) from by omega,if_true,YT (show (-9223372036854775808:Int)<=(k:Int)+1 by omega) (by omega)];cases hw:within x lo hi
   ·refine .inr ⟨_,rfl,λ_=>?_,λ_=>by simp⟩
    rw[allIn,List.all_eq_false];grind
   ·refine .inl ⟨_,rfl,by simp,?_⟩
    rw[YP hx,allIn,List.all_append];simp only[allIn] at hS;simp[hS,hw]
  ·rintro ⟨i,⟨⟩⟩ ⟨rfl,hS⟩
   rw[List.take_length] at hS;simp only[YD,Int.lt_irrefl,if_false];grind
 obtain ⟨r,h1,h2⟩:=h1;unfold XO YM;grind
theorem Vd {l:List Zz} {f:Bool×Unit} (hl:Len l) (p:Zz->Bool) (hp:∀ x∈l,Jt x f.fst=some (p x)):Z4 l f=some (Za5 p l):=by
 unfold Z4;refine Jv (out:=λi=>i) hl (p:=p) (λk x hx=>?_) ?_
 ·have hk:=(List.getElem?_eq_some_iff.1 hx).1
  simp only[Yk,Zp,hx,Bq,show (k:Int)<(l.length:Int) from by omega,if_true,hp x (List.mem_of_getElem? hx)];split<;>rfl
 ·simp only[Yk,Int.lt_irrefl,if_false]
theorem QM {l:List Zz} {f:Bool×Unit} (hl:Len l) (p:Zz->Bool) (hp:∀ x∈l,Jt x f.fst=some (p x)):ZT l f=some (l.any p):=by
 unfold ZT;rw[Vd hl p hp,Bq];congr 1;rw[Bool.eq_iff_iff,decide_eq_true_eq,VL]
theorem VD {l:List YQ} {f:Unit} (hl:Len l) (p:YQ->Bool) (hp:∀ x∈l,ZeN x=some (p x)):Ya l f=some (Za5 p l):=by
 unfold Ya;refine Jv (out:=λi=>i) hl (p:=p) (λk x hx=>?_) ?_
 ·have hk:=(List.getElem?_eq_some_iff.1 hx).1
  simp only[Yq,Zp,hx,Bq,show (k:Int)<(l.length:Int) from by omega,if_true,hp x (List.mem_of_getElem? hx)];split<;>rfl
 ·simp only[Yq,Int.lt_irrefl,if_false]
theorem Vq {l:List ZG} {f:ZG×Unit} (hl:Len l) (p:ZG->Bool) (hp:∀ x∈l,Vn x f.fst=some (p x)):Z6 l f=some (Za5 p l):=by
 unfold Z6;refine Jv (out:=λi=>i) hl (p:=p) (λk x hx=>?_) ?_
 ·have hk:=(List.getElem?_eq_some_iff.1 hx).1
  simp only[Ym,Zp,hx,Bq,show (k:Int)<(l.length:Int) from by omega,if_true,hp x (List.mem_of_getElem? hx)];split<;>rfl
 ·simp only[Ym,Int.lt_irrefl,if_false]
theorem QS {l:List ZG} {f:ZG×Unit} (hl:Len l) (p:ZG->Bool) (hp:∀ x∈l,Vn x f.fst=some (p x)):ZX l f=some (l.any p):=by
 unfold ZX;rw[Vq hl p hp,Bq];congr 1;rw[Bool.eq_iff_iff,decide_eq_true_eq,VL]
theorem VP {l:List ZG} {f:Int×Unit} (hl:Len l) (p:ZG->Bool) (hp:∀ x∈l,ZdE x f.fst=some (p x)):Yf l f=some (Za5 p l):=by
 unfold Yf;refine Jv (out:=λi=>i) hl (p:=p) (λk x hx=>?_) ?_
 ·have hk:=(List.getElem?_eq_some_iff.1 hx).1
  simp only[Yv,Zp,hx,Bq,show (k:Int)<(l.length:Int) from by omega,if_true,hp x (List.mem_of_getElem? hx)];split<;>rfl
 ·simp only[Yv,Int.lt_irrefl,if_false]
theorem Vu {l:List ZG} {f:Int×Unit} (hl:Len l) (p:ZG->Bool) (hp:∀ x∈l,ZdE x f.fst=some (p x)):Z7 l f=some (l.any p):=by
 unfold Z7;rw[VP hl p hp,Bq];congr 1;rw[Bool.eq_iff_iff,decide_eq_true_eq,VL]
theorem Vv {l:List Int} {f:Zf×Unit} (hl:Len l) (p:Int->Bool) (hp:∀ x∈l,QC x f.fst=some (p x)):Z8 l f=some (Za5 p l):=by
 unfold Z8;refine Jv (out:=λi=>i) hl (p:=p) (λk x hx=>?_) ?_
 ·have hk:=(List.getElem?_eq_some_iff.1 hx).1
  simp only[Yo,Zp,hx,Bq,show (k:Int)<(l.length:Int) from by omega,if_true,hp x (List.mem_of_getElem? hx)];split<;>rfl
 ·simp only[Yo,Int.lt_irrefl,if_false]
theorem QV {l:List Int} {f:Zf×Unit} (hl:Len l) (p:Int->Bool) (hp:∀ x∈l,QC x f.fst=some (p x)):ZY l f=some (l.any p):=by
 unfold ZY;rw[Vv hl p hp,Bq];congr 1;rw[Bool.eq_iff_iff,decide_eq_true_eq,VL]
theorem Zaf {l:List Int} {f:Unit} (hl:Len l) (p:Int->Bool) (hp:∀ x∈l,ZdF x=some (p x)):YF l f=some (Za5 p l):=by
 unfold YF;refine Jv (out:=λi=>i) hl (p:=p) (λk x hx=>?_) ?_
 ·have hk:=(List.getElem?_eq_some_iff.1 hx).1
  simp only[YV,Zp,hx,Bq,show (k:Int)<(l.length:Int) from by omega,if_true,hp x (List.mem_of_getElem? hx)];split<;>rfl
 ·simp only[YV,Int.lt_irrefl,if_false]
theorem JG {l:List Int} {f:Unit} (hl:Len l) (p:Int->Bool) (hp:∀ x∈l,ZdF x=some (p x)):Yy l f=some (l.any p):=by
 unfold Yy;rw[Zaf hl p hp,Bq];congr 1;rw[Bool.eq_iff_iff,decide_eq_true_eq,VL]
theorem QN {l:List Zc} {f:ZF×Unit} (hl:Len l) (p:Zc->Bool) (hp:∀ x∈l,Jd x f.fst=some (p x)):ZU l f=some (Za5 p l):=by
 unfold ZU;refine Jv (out:=λi=>i) hl (p:=p) (λk x hx=>?_) ?_
 ·have hk:=(List.getElem?_eq_some_iff.1 hx).1
  simp only[Yc,Zp,hx,Bq,show (k:Int)<(l.length:Int) from by omega,if_true,hp x (List.mem_of_getElem? hx)];split<;>rfl
 ·simp only[Yc,Int.lt_irrefl,if_false]
theorem QD {l:List Zc} {f:ZF×Unit} (hl:Len l) (p:Zc->Bool) (hp:∀ x∈l,Jd x f.fst=some (p x)):ZN l f=some (l.any p):=by
 unfold ZN;rw[QN hl p hp,Bq];congr 1;rw[Bool.eq_iff_iff,decide_eq_true_eq,VL]
theorem Qc {l:List Zr} {f:ZF×Unit} (hl:Len l) (p:Zr->Bool) (hp:∀ x∈l,Je x f.fst=some (p x)):ZL l f=some (Za5 p l):=by
 unfold ZL;refine Jv (out:=λi=>i) hl (p:=p) (λk x hx=>?_) ?_
 ·have hk:=(List.getElem?_eq_some_iff.1 hx).1
  simp only[ZW,Zp,hx,Bq,show (k:Int)<(l.length:Int) from by omega,if_true,hp x (List.mem_of_getElem? hx)];split<;>rfl
 ·simp only[ZW,Int.lt_irrefl,if_false]
theorem XZ {l:List Zr} {f:ZF×Unit} (hl:Len l) (p:Zr->Bool) (hp:∀ x∈l,Je x f.fst=some (p x)):ZJ l f=some (l.any p):=by
 unfold ZJ;rw[Qc hl p hp,Bq];congr 1;rw[Bool.eq_iff_iff,decide_eq_true_eq,VL]
theorem Zhf {l:List Int} {v:Int} (hl:Len l):XP l v=some (Za5 (λx=>decide (v=x)) l):=by
 unfold XP;refine Jv (out:=λi=>i) hl (λk x hx=>?_) ?_
 ·have hk:=(List.getElem?_eq_some_iff.1 hx).1
  simp only[Xu,Zp,hx,Bq,show (k:Int)<(l.length:Int) from by omega,if_true,decide_eq_true_eq];split<;>rfl
 ·simp only[Xu,Int.lt_irrefl,if_false]
theorem ZfH {l:List Int} {v:Int} (hl:Len l):YN l v=some (decide (v∈l)):=by
 unfold YN;rw[Zhf hl,Bq];congr 1;rw[Bool.eq_iff_iff,decide_eq_true_eq,decide_eq_true_eq,VL,List.any_eq_true];simp
theorem Y9 {l:List Zj} {f:Int×Unit} (hl:Len l) (p:Zj->Bool) (hp:∀ x∈l,ZgL x f.fst=some (p x)):Z0 l f=some (Za5 p l):=by
 unfold Z0;refine Jv (out:=λi=>i) hl (p:=p) (λk x hx=>?_) ?_
 ·have hk:=(List.getElem?_eq_some_iff.1 hx).1
  simp only[Yh,Zp,hx,Bq,show (k:Int)<(l.length:Int) from by omega,if_true,hp x (List.mem_of_getElem? hx)];split<;>rfl
 ·simp only[Yh,Int.lt_irrefl,if_false]
theorem Zfv {a b:Bool} (h:a=true<->b=true):a=b:=by grind
theorem Vk {P Q:Prop} (h:P<->Q):tr P=tr Q:=by rw[propext h]
def Inc (l:List Int):Prop:=∀ (k:Nat) (x y:Int),l[k]?=some x->l[k+1]?=some y->x<y
def ZiZ (l:List Int) (lo hi:Int):Prop:=∀ x∈l,lo<=x/\x<=hi
theorem Znp (l:List Int) (lo hi:Int):allIn l lo hi=true<->ZiZ l lo hi:=by
 unfold allIn ZiZ;rw[List.all_eq_true];simp only[QO]
theorem ZaH (l:List Int):QK l=some (l.length:Int):=rfl
theorem ZaF (l:List Int) (hl:Len l):QJ l=some (tr (Inc l)):=by
 unfold QJ;have h4:l.length<=4611686018427387904:=hl;by_cases h0:l.length=0
 ·have:l=[]:=List.eq_nil_of_length_eq_zero h0
  subst this;rw[YI (r:=true) (by rfl)];have h0:Inc []:=λk x y h=>by simp at h
  rw[ZR h0]
 have:=ZxY (ρ:=Bool) 1 l.length (by omega) h4 (λk=>∀ x y,l[k-1]?=some x->l[k]?=some y->x<y) (step:=λv=>Q0 l v.1) (bad:=false) (good:=true)
  (λk h1 h2 _=>by
   obtain ⟨x,hx⟩:∃ x,l[k-1]?=some x:=⟨_,List.getElem?_eq_getElem (by omega)⟩;obtain ⟨y,hy⟩:∃ y,l[k]?=some y:=⟨_,List.getElem?_eq_getElem h2⟩;have e1:Wq ((k:Int)-1)=((k-1:Nat):Int):=by rw[YT (by omega) (by omega)];omega
   simp only[Q0,show (k:Int)<(l.length:Int) from by omega,if_true,e1,Zp,hx,hy,Bq];grind)
  (λ_=>by simp only[Q0,Int.lt_irrefl,if_false])
 refine (show Zo (λv=>Q0 l v.1) ((1:Int),())=_ from this).trans ?_;rw[ZlC];congr 1;refine Vk ⟨λh k x y hx hy=>?_,λh j h1 h2 x y hx hy=>?_⟩
 ·exact h (k+1) (by omega) (List.getElem?_eq_some_iff.1 hy).1 x y (by simpa using hx) hy
 ·exact h (j-1) x y hx (by grind)
def ZgS (l:List Int):Prop:=1<=l.length/\l.length<=4/\ZiZ l 0 100000/\Inc l
theorem Zmk (l:List Int) (hl:Len l):ZhE l=some (tr (ZgS l)):=by
 unfold ZhE;rw[ZaH,Bq,Jp,Bq,ZcT l _ _ hl,Bq,ZaF l hl,Bq];have e:tr (ZgS l)=(within (l.length:Int) 1 4&&allIn l 0 100000&&tr (Inc l)):=by
  refine Zqr ?_;simp only[Bool.and_eq_true,QO,Znp,Xx,ZgS];grind
 grind
theorem ZlD (l:List Int) (hl:Len l):Zgx l=some (tr (ZgS l)):=by
 unfold Zgx;have h4:l.length<=4611686018427387904:=hl;rw[Vt hl (λk x=>(0<=x/\x<=100000)/\(0<k->∀ y,l[k-1]?=some y->y<x)) (bad:=false) (good:=decide (1<=l.length/\l.length<=4))
  (λk x hx hk _=>by
   simp only[Zfg,show (k:Int)<(l.length:Int) from by omega,if_true,Zp,hx,Bq,Zaj];by_cases hw:within x 0 100000=true
   ·rw[if_pos hw]
    by_cases h0:0<k
    ·obtain ⟨y,hy⟩:∃ y,l[k-1]?=some y:=⟨_,List.getElem?_eq_getElem (by omega)⟩
     have e1:Wq ((k:Int)-1)=((k-1:Nat):Int):=by rw[YT (by omega) (by omega)];omega
     rw[if_pos (by omega),e1,Zp,hy,Bq];refine ⟨λh=>?_,λh=>?_⟩
     ·grind
     ·rw[if_pos]
      rcases Int.lt_or_le y x with h' | h'
      ·exact absurd ⟨(QO _ _ _).1 hw,λ_ z hz=>by grind⟩ h
      ·exact h'
    ·rw[if_neg (by omega)]
     exact ⟨λ_=>rfl,λh=>absurd ⟨(QO _ _ _).1 hw,λh'=>absurd h' h0⟩ h⟩
   ·rw[if_neg hw]
    exact ⟨λh=>absurd ((QO _ _ _).2 h.1) hw,λ_=>rfl⟩)
  (λ_=>by
   simp only[Zfg,Int.lt_irrefl,if_false];by_cases h1:1<=l.length
   ·rw[if_pos (by omega)]
    congr 2;grind
   grind)]
 congr 1;refine Zfv ?_;rw[Xx];by_cases h:Zfu l (λk x=>(0<=x/\x<=100000)/\(0<k->∀ y,l[k-1]?=some y->y<x))
 ·rw[XI h,decide_eq_true_eq]
  constructor
  ·rintro ⟨h1,h2⟩
   refine ⟨h1,h2,λx hx=>?_,λk x y hx hy=>?_⟩
   ·obtain ⟨k,hk⟩:=List.mem_iff_getElem?.1 hx
    exact (h k x hk).1
   ·exact (h (k+1) y hy).2 (by omega) x (by simpa using hx)
  ·intro hh
   exact ⟨hh.1,hh.2.1⟩
 ·rw[Xe h]
  constructor
  ·intro hh;cases hh
  ·intro hh
   refine absurd ?_ h;intro k x hk;refine ⟨hh.2.2.1 x (List.mem_of_getElem? hk),λh0 y hy=>?_⟩;exact hh.2.2.2 (k-1) y x hy (by grind)
def JA (t:Zz):Prop:=ZgS (Zz.Zgg t)/\ZgS (Zz.Loads t)/\(Zz.Values t).length=(Zz.Zgg t).length*(Zz.Loads t).length/\ZiZ (Zz.Values t) (-1000000) 1000000
def ZFE (t:Zz):Prop:=Len (Zz.Zgg t)/\Len (Zz.Loads t)/\Len (Zz.Values t)
theorem ZgS.mul {a b:List Int} (ha:ZgS a) (hb:ZgS b):a.length*b.length<=16:=by
 have h1:=ha.2.1;have h2:=hb.2.1
 calc a.length*b.length<=4*4:=Nat.mul_le_mul h1 h2
  _=16:=rfl
theorem Zx3 {a b:List Int} (ha:ZgS a) (hb:ZgS b):Wq ((a.length:Int)*(b.length:Int))=((a.length*b.length:Nat):Int):=by
 have:=ha.mul hb;have e:(a.length:Int)*(b.length:Int)=((a.length*b.length:Nat):Int):=by simp
 rw[e,YT (by omega) (by omega)]
theorem Zq5 (t:Zz) (h:ZFE t):Zie t=some (tr (JA t)):=by
 unfold Zie;rw[Zmk _ h.1,Bq];by_cases h1:ZgS (Zz.Zgg t)
 ·rw[if_pos (ZR h1),Zmk _ h.2.1,Bq]
  by_cases h2:ZgS (Zz.Loads t)
  ·rw[if_pos (ZR h2),Zx3 h1 h2]
   by_cases h3:(Zz.Values t).length=(Zz.Zgg t).length*(Zz.Loads t).length
   ·rw[if_pos (by rw[h3]),ZcT _ _ _ h.2.2,Bq]
    congr 1;refine Zfv ?_;rw[Znp,Xx];exact ⟨λh4=>⟨h1,h2,h3,h4⟩,λh4=>h4.2.2.2⟩
   ·rw[if_neg (by omega),ZP (λhh=>h3 hh.2.2.1)]
  ·rw[if_neg (by rw[ZP h2];simp),ZP (λhh=>h2 hh.2.1)]
 ·rw[if_neg (by rw[ZP h1];simp),ZP (λhh=>h1 hh.1)]
theorem Zr7 (t:Zz) (h:ZFE t):ZiH t=some (tr (JA t)):=by
 unfold ZiH;rw[ZlD _ h.1,Bq];by_cases h1:ZgS (Zz.Zgg t)
 ·rw[if_pos (ZR h1),ZlD _ h.2.1,Bq]
  by_cases h2:ZgS (Zz.Loads t)
  ·rw[if_pos (ZR h2),Zx3 h1 h2]
   by_cases h3:(Zz.Values t).length=(Zz.Zgg t).length*(Zz.Loads t).length
   ·rw[if_pos (by rw[h3]),Vt h.2.2 (λk x=>-1000000<=x/\x<=1000000) (bad:=false) (good:=true)
     (λk x hx hk _=>by
      simp only[Zff,show (k:Int)<((Zz.Values t).length:Int) from by omega,if_true,Zp,hx,Bq,Zaj,QO];grind)
     (λ_=>by simp only[Zff,Int.lt_irrefl,if_false]),ZlC]
    congr 1;refine Vk ⟨λh4=>⟨h1,h2,h3,λx hx=>?_⟩,λh4 k x hx=>h4.2.2.2 x (List.mem_of_getElem? hx)⟩;obtain ⟨k,hk⟩:=List.mem_iff_getElem?.1 hx;exact h4 k x hk
   ·rw[if_neg (by omega),ZP (λhh=>h3 hh.2.2.1)]
  ·rw[if_neg (by rw[ZP h2];simp),ZP (λhh=>h2 hh.2.1)]
 ·rw[if_neg (by rw[ZP h1];simp),ZP (λhh=>h1 hh.1)]
theorem ZuI (x:Int) (l:List Int) (hl:Len (x::l)):Jl (x::l)=some (l.foldl min x):=by
 unfold Jl;have h4:(x::l).length<=4611686018427387904:=hl;have e1:¬(((x::l).length:Int)<1):=by grind
 have e2:atI (x::l) (0:Int)=some x:=rfl;rw[if_neg e1,e2,Bq];refine Yb l.length (λk v=>v.1=(l.take k).foldl min x/\v.2.1=(((k+1:Nat)):Int)) _ ⟨by simp,rfl⟩ ?_ ?_
 ·rintro k ⟨m,i,⟨⟩⟩ hk ⟨hm,hi⟩
  simp only at hm hi;subst hm;subst hi;have hx:l[k]?=some l[k]:=List.getElem?_eq_getElem hk;have hx1:(x::l)[k+1]?=some l[k]:=by simp
  simp only[V7,Zp,hx1,Bq,show ((k+1:Nat):Int)<((x::l).length:Int) from by simp;omega,if_true];refine .inl ⟨_,rfl,?_,?_⟩
  ·rw[YP hx,List.foldl_append];rfl
  ·simp only[List.length_cons] at h4
   show Wq (((k+1:Nat):Int)+1)=((k+1+1:Nat):Int);rw[YT (by omega) (by omega)];omega
 ·rintro ⟨m,i,⟨⟩⟩ ⟨hm,hi⟩
  simp only at hm hi;subst hm;subst hi;rw[List.take_length];simp only[V7,show ¬(((l.length+1:Nat):Int)<((x::l).length:Int)) from by simp,if_false]
theorem ZnG (x:Int) (l:List Int):l.foldl min x<0<->x<0\/∃ y∈l,y<0:=by
 induction l generalizing x with
 | nil=>simp
 | cons y r ih =>
  simp only[List.foldl_cons,ih,List.mem_cons,exists_eq_or_imp];grind
def Zc6 (l:List Zz) (pos:Bool):Prop:=l.length=2/\∀ t∈l,JA t/\(pos=true->∀ v∈Zz.Values t,0<=v)
theorem JA.some {t:Zz} (h:JA t):∃ x l,Zz.Values t=x::l:=by
 have h1:=h.1.1;have h2:=h.2.1.1;have h3:=h.2.2.1;have:1*1<=(Zz.Zgg t).length*(Zz.Loads t).length:=Nat.mul_le_mul h1 h2;cases hv:Zz.Values t with
 | nil=>grind
 | cons x l=>exact ⟨x,l,rfl⟩
theorem ZlX (t:Zz) (pos:Bool) (h:ZFE t):Jt t pos=some (! tr (JA t/\(pos=true->∀ v∈Zz.Values t,0<=v))):=by
 unfold Jt;rw[Zq5 _ h,Bq];by_cases h1:JA t
 ·rw[if_pos (ZR h1)]
  cases pos
  ·rw[if_neg (by simp),ZR ⟨h1,λe=>by cases e⟩];rfl
  ·obtain ⟨x,l,hv⟩:=h1.some
   have hlen:=h.2.2;rw[if_pos rfl,hv];rw[hv] at hlen;rw[ZuI x l hlen,Bq];congr 1;refine Zfv ?_;rw[decide_eq_true_eq,ZnG,Bool.not_eq_true',<-Bool.not_eq_true,Xx];constructor
   ·rintro (hh | ⟨y,hy,hh⟩) ⟨_,hall⟩
    ·have:=hall rfl x (by simp);omega
    grind
   grind
 ·rw[if_neg (by rw[ZP h1];simp),ZP (λhh=>h1 hh.1)];rfl
def ZDw (l:List Zz):Prop:=Len l/\∀ t∈l,ZFE t
theorem Zfw (l:List Zz) (pos:Bool) (h:ZDw l):ZbJ l pos=some (tr (Zc6 l pos)):=by
 unfold ZbJ;by_cases h2:l.length=2
 ·rw[if_pos (by omega),QM h.1 (λt=>! tr (JA t/\(pos=true->∀ v∈Zz.Values t,0<=v))) (λt ht=>ZlX t pos (h.2 t ht)),Bq]
  congr 1;refine Zfv ?_;rw[Bool.not_eq_true',List.any_eq_false,Xx];simp only[Bool.not_eq_true',Bool.not_eq_false,Xx,Bool.not_eq_true];exact ⟨λhh=>⟨h2,hh⟩,λhh=>hh.2⟩
 ·rw[if_neg (by omega),ZP (λhh=>h2 hh.1)]
theorem ZjN {α τ ρ:Type} {l:List α} (pk:Nat->τ) (P:Nat->α->Prop) {step:τ->Option (τ ⊕ ρ)} {bad good:ρ}
  (hs:∀ (k:Nat) (x:α),l[k]?=some x->k<l.length->(∀ (j:Nat) (y:α),j<k->l[j]?=some y->P j y)->(P k x->step (pk k)=some (.inl (pk (k+1))))/\(¬P k x->step (pk k)=some (.inr bad)))
  (hx:Zfu l P->step (pk l.length)=some (.inr good)):Zo step (pk 0)=some (sel (Zfu l P) good bad):=by
 refine Yb l.length (λk v=>v=pk k/\∀ (j:Nat) (y:α),j<k->l[j]?=some y->P j y) _ ⟨rfl,λj y hj=>by omega⟩ ?_ ?_
 ·rintro k v hk ⟨rfl,hS⟩
  have hx:l[k]?=some l[k]:=List.getElem?_eq_getElem hk;obtain ⟨h1,h2⟩:=hs k _ hx hk hS;by_cases hP:P k l[k]
  ·grind
  ·right
   rw[h2 hP,Xe (λh=>hP (h k _ hx))]
 ·rintro v ⟨rfl,hS⟩
  have hA:Zfu l P:=λk x hk=>hS k x (List.getElem?_eq_some_iff.1 hk).1 hk;rw[hx hA,XI hA]
theorem Zbo {α τ ρ:Type} {l:List α} (pk:Nat->τ) {step:τ->Option (τ ⊕ ρ)} {good:ρ}
  (hs:∀ (k:Nat) (x:α),l[k]?=some x->k<l.length->step (pk k)=some (.inl (pk (k+1)))) (hx:step (pk l.length)=some (.inr good)):Zo step (pk 0)=some good:=by
 have:=ZjN (l:=l) pk (λ_ _=>True) (step:=step) (bad:=good) (good:=good) (λk x h1 h2 _=>⟨λ_=>hs k x h1 h2,λh=>absurd trivial h⟩) (λ_=>hx);rw[this,XI (show Zfu l (λ_ _=>True) from λ_ _ _=>trivial)]
theorem ZrK {ρ:Type} (n:Nat) (hn:n<=4611686018427387904) (P:Nat->Prop) {step:Int×Unit->Option ((Int×Unit) ⊕ ρ)} {bad good:ρ}
  (hs:∀ k:Nat,k<n->(P k->step ((k:Int),())=some (.inl (Wq ((k:Int)+1),())))/\(¬P k->step ((k:Int),())=some (.inr bad)))
  (hx:(∀ j,j<n->P j)->step ((n:Int),())=some (.inr good)):Zo step ((0:Int),())=some (sel (∀ j,j<n->P j) good bad):=by
 have:=ZxY (ρ:=ρ) 0 n (by omega) hn P (step:=step) (bad:=bad) (good:=good) (λk _ h _=>hs k h) (λh=>hx (λj hj=>h j (by omega) hj));grind
theorem Y0 {t:Ty} {l:List t.den} (h:sm (.sl t) l):Len l:=by
 have h1:(l.length:Int)<=1048576:=h.1;show l.length<=4611686018427387904;omega
theorem ZhZ {s:List UInt8} (h:sm .str s):s.length<=4611686018427387904:=by
 have h1:(s.length:Int)<=1048576:=h;omega
theorem Zr4 {t:Ty} {l:List t.den} (h:sm (.sl t) l) {x:t.den} (hx:x∈l):sm t x:=h.2 x hx
theorem ZiF {t:Ty} {l:List t.den} (h:sm (.sl t) l) {k:Nat} {x:t.den} (hx:l[k]?=some x):sm t x:=h.2 x (List.mem_of_getElem? hx)
theorem ZH {t:Ty} {l:List t.den} (h:sm (.sl t) l):l.length<=1048576:=by
 have h1:(l.length:Int)<=1048576:=h.1;omega
theorem Zzh {t:Zz} (h:sm Xw t):ZFE t:=⟨Y0 (t:=.int .i64) h.1,Y0 (t:=.int .i64) h.2.1,Y0 (t:=.int .i64) h.2.2.1⟩
theorem Zj4 {l:List Zz} (h:sm (.sl Xw) l):ZDw l:=⟨Y0 h,λt ht=>Zzh (Zr4 h ht)⟩
theorem Znh (t:Zz) (h:ZFE t):∃ r,ZdO t=some r/\(JA t->r.2=0/\(r.1.1<0<->∃ v∈Zz.Values t,v<0))/\(¬JA t->r.2=1):=by
 unfold ZdO;rw[Zr7 _ h,Bq];by_cases h1:JA t
 ·rw[if_pos (ZR h1)]
  obtain ⟨x,l,hv⟩:=h1.some;have h4:(x::l).length<=4611686018427387904:=by rw[<-hv];exact h.2.2
  have e2:atI (Zz.Values t) (0:Int)=some x:=by rw[hv];rfl
  rw[e2,Bq];have:=Zbo (l:=l) (ρ:=Zx×Int) (λk=>((((k+1:Nat)):Int),(l.take k).foldl min x,(l.take k).foldl max x,())) (step:=λv=>JN t v.1 v.2.1 v.2.2.1) (good:=((l.foldl min x,l.foldl max x,()),0))
   (λk y hy hk=>by
    have hx1:(x::l)[k+1]?=some y:=by simpa using hy
    simp only[List.length_cons] at h4;simp only[JN,hv,Zp,hx1,Bq,show ((k+1:Nat):Int)<((x::l).length:Int) from by simp;omega,if_true];rw[YP hy,List.foldl_append,List.foldl_append,YT (by omega) (by omega)];rfl)
   (by
    simp only[JN,hv,List.take_length,show ¬(((l.length+1:Nat):Int)<((x::l).length:Int)) from by simp,if_false])
  refine ⟨_,this,λ_=>⟨rfl,?_⟩,λhn=>absurd h1 hn⟩;rw[hv];refine (ZnG x l).trans ?_;simp
 ·rw[if_neg (by rw[ZP h1];simp)]
  grind
theorem ZfL (l:List Zz) (pos:Bool) (h:ZDw l):YO l pos=some (tr (Zc6 l pos)):=by
 unfold YO;by_cases h2:l.length=2
 ·rw[if_pos (by omega),Vt h.1 (λk t=>JA t/\(pos=true->∀ v∈Zz.Values t,0<=v)) (bad:=false) (good:=true)
   (λk t hx hk _=>by
    obtain ⟨r,hr,hr1,hr2⟩:=Znh t (h.2 t (List.mem_of_getElem? hx));simp only[Zdh,show (k:Int)<2 from by omega,if_true,Zp,hx,Bq,hr];by_cases ht:JA t;all_goals grind)
   (λ_=>by simp only[Zdh,h2];rfl),ZlC]
  congr 1;refine Vk ⟨λhh=>⟨h2,λt ht=>?_⟩,λhh k t hk=>hh.2 t (List.mem_of_getElem? hk)⟩;obtain ⟨k,hk⟩:=List.mem_iff_getElem?.1 ht;exact hh k t hk
 ·rw[if_neg (by omega),ZP (λhh=>h2 hh.1)]
def ZgX (l:List YQ):List (List UInt8):=l.map YQ.Name
def Zqh (l:List YQ):Nat:=l.countP (λp=>YQ.Clock p)
def Zu2 (n k:Nat) (p:YQ):Prop:=(0<=YQ.Cap p/\YQ.Cap p<=500)/\(k+1=n->YQ.Dir p=2/\YQ.Cap p=0/\YQ.Clock p=false)/\(k+1<n->YQ.Dir p=1)
def Zmb (l:List YQ):Prop:=2<=l.length/\l.length<=5/\Ji (ZgX l) l.length/\Zfu l (Zu2 l.length)
theorem Zq7 (l:List YQ) (h:sm (.sl Zge) l):Zif l=some (tr (Zmb l)):=by
 unfold Zif;have hs:=ZH h;have:=ZjN (l:=l) (ρ:=Bool) (λk=>((ZgX l).take k,(k:Int),())) (Zu2 l.length) (step:=λv=>Zaa l v.1 v.2.1) (bad:=false) (good:=tr (2<=l.length/\l.length<=5/\Ji (ZgX l) l.length))
  (λk p hx hk _=>by
   have hn:(ZgX l)[k]?=some (YQ.Name p):=by simp[ZgX,hx]
   have e1:Wq ((l.length:Int)-1)=((l.length-1:Nat):Int):=by rw[YT (by omega) (by omega)];omega
   simp only[Zaa,show (k:Int)<(l.length:Int) from by omega,if_true,Zp,hx,Bq,e1];rw[Zh (by grind),YP hn,YT (by omega) (by omega)];unfold Zu2;by_cases hlast:(k:Int)=((l.length-1:Nat):Int)
   ·grind
   ·rw[if_neg hlast,Jp]
    have hk1:k+1<l.length:=by omega
    simp only[Bq,QO];grind)
  (λhA=>by
   have e0:(ZgX l).take l.length=ZgX l:=by rw[show l.length=(ZgX l).length by simp[ZgX],List.take_length]
   simp only[Zaa,Int.lt_irrefl,if_false,e0,Jp,Bq,show ZaG l=some (l.length:Int) from rfl];have hlen:(ZgX l).length=l.length:=by simp[ZgX]
   by_cases hw:within (l.length:Int) 2 5=true
   ·rw[if_pos hw,V5 _ (by rw[hlen];omega),Bq,hlen]
    rw[QO] at hw;grind
   ·rw[if_neg hw,ZP]
    intro hh;exact hw ((QO _ _ _).2 (by omega)))
 refine (show Zo (λv=>Zaa l v.1 v.2.1) (([]:List (List UInt8)),(0:Int),())=_ from this).trans ?_;congr 1;refine Zfv ?_;rw[Xx];by_cases hA:Zfu l (Zu2 l.length)
 ·rw[XI hA,Xx]
  exact ⟨λhh=>⟨hh.1,hh.2.1,hh.2.2,hA⟩,λhh=>⟨hh.1,hh.2.1,hh.2.2.1⟩⟩
 ·rw[Xe hA]
  exact ⟨λhh=>(by cases hh),λhh=>absurd hh.2.2.2 hA⟩
theorem Zi1 {n:Nat} (h:n<=1048576) (h1:1<=n):Wq ((n:Int)-1)=((n-1:Nat):Int):=by rw[YT (by omega) (by omega)];omega
theorem Xm {n:Nat} (h:n<=1048576):Wq ((n:Int)+1)=((n+1:Nat):Int):=by rw[YT (by omega) (by omega)];omega
theorem Zmr {l:List YQ} {k:Nat} {s:List UInt8}:s ∉ (ZgX l).take k<->∀ (j:Nat) (q:YQ),j<k->l[j]?=some q->YQ.Name q≠s:=by
 constructor
 ·intro h j q hj hq e
  refine h (List.mem_iff_getElem?.2 ⟨j,?_⟩);rw[List.getElem?_take,if_pos hj];simp[ZgX,hq,e]
 ·intro h hm
  obtain ⟨j,hj⟩:=List.mem_iff_getElem?.1 hm;rw[List.getElem?_take] at hj;split at hj
  ·rename_i hjk
   simp only[ZgX,List.getElem?_map,Option.map_eq_some_iff] at hj;obtain ⟨q,hq,e⟩:=hj;exact h j q hjk hq e
  ·cases hj
theorem Zr9 (c:Zn) (h:sm (.sl Zge) (Zn.Xi c)):ZiI c=some (sel (Zmb (Zn.Xi c)) ((Zqh (Zn.Xi c):Int),true) ((0:Int),false)):=by
 unfold ZiI;have hs:=ZH h;by_cases h2:((Zn.Xi c).length:Int)<2
 ·rw[if_pos h2,Xe (λhh=>by have:=hh.1;omega)]
 by_cases h5:(5:Int)<((Zn.Xi c).length:Int)
 ·rw[if_neg h2,if_pos h5,Xe (λhh=>by have:=hh.2.1;omega)]
 rw[if_neg h2,if_neg h5];have e1:Wq (((Zn.Xi c).length:Int)-1)=(((Zn.Xi c).length-1:Nat):Int):=Zi1 hs (by omega);have:=ZjN (l:=Zn.Xi c) (ρ:=Int×Bool) (λk=>((((Zn.Xi c).take k).countP (λp=>YQ.Clock p):Int),(k:Int),()))
  (λk p=>(Za9 (YQ.Name p)=true/\∀ (j:Nat) (q:YQ),j<k->(Zn.Xi c)[j]?=some q->YQ.Name q≠YQ.Name p)/\Zu2 (Zn.Xi c).length k p) (step:=λv=>Zal c v.1 v.2.1) (bad:=((0:Int),false)) (good:=((Zqh (Zn.Xi c):Int),true))
  (λk p hx hk _=>by
   have hcnt:((Zn.Xi c).take k).countP (λp=>YQ.Clock p)<=5:=by
    have h1:=List.countP_le_length (p:=λp=>YQ.Clock p) (l:=(Zn.Xi c).take k);rw[List.length_take] at h1;omega
   have hnext:((Zn.Xi c).take (k+1)).countP (λp=>YQ.Clock p)=((Zn.Xi c).take k).countP (λp=>YQ.Clock p)+if YQ.Clock p=true then 1 else 0:=by
    rw[YP hx,List.countP_append];simp[List.countP_cons]
   have hname:(YQ.Name p).length<=4611686018427387904:=ZhZ (ZiF h hx).1;have rest:∀ (v:Int),V3 c v (k:Int) p (k:Int)=sel (Za9 (YQ.Name p)=true/\Zu2 (Zn.Xi c).length k p) (some (Sum.inr (Sum.inl (if YQ.Clock p=true then Wq (v+1) else v,((k+1:Nat):Int),())))) (some (Sum.inr (Sum.inr (0,false)))):=by
    intro v;simp only[V3,Int.lt_irrefl,if_false,ZcD _ hname,Zaj,Bq,e1,Xm (show k<=1048576 by omega),QO];unfold Zu2;by_cases hn:Za9 (YQ.Name p)=true
    ·by_cases hcap:0<=YQ.Cap p/\YQ.Cap p<=500
     ·by_cases hlast:k+1=(Zn.Xi c).length
      ·have e2:(k:Int)=(((Zn.Xi c).length-1:Nat):Int):=by omega
       have e3:¬((k:Int)<(((Zn.Xi c).length-1:Nat):Int)):=by omega
       have e4:¬(k+1<(Zn.Xi c).length):=by omega
       rw[if_pos hn,if_pos hcap,if_pos e2];by_cases a:YQ.Dir p=2
       ·by_cases b:YQ.Cap p=0
        ·by_cases d:YQ.Clock p=true
         ·rw[if_pos a,if_pos b,if_pos d,Xe]
          rintro ⟨_,_,h',_⟩;have:=(h' hlast).2.2;rw[d] at this;cases this
         ·rw[if_pos a,if_pos b,if_neg d,if_neg e3,if_neg d,XI ⟨hn,hcap,λ_=>⟨a,b,by simpa using d⟩,λh'=>absurd h' e4⟩]
          simp[d]
        ·rw[if_pos a,if_neg b,Xe]
         rintro ⟨_,_,h',_⟩;exact b (h' hlast).2.1
       ·rw[if_neg a,Xe]
        rintro ⟨_,_,h',_⟩;exact a (h' hlast).1
      ·have e2:¬(k:Int)=(((Zn.Xi c).length-1:Nat):Int):=by omega
       have e3:(k:Int)<(((Zn.Xi c).length-1:Nat):Int):=by omega
       have e4:k+1<(Zn.Xi c).length:=by omega
       rw[if_pos hn,if_pos hcap,if_neg e2,if_pos e3];by_cases a:YQ.Dir p=1
       ·rw[if_pos a,XI ⟨hn,hcap,λh'=>absurd h' hlast,λ_=>a⟩]
        by_cases d:YQ.Clock p=true
        ·rw[if_pos d,if_pos d]
        ·rw[if_neg d,if_neg d]
       ·rw[if_neg a,Xe]
        rintro ⟨_,_,_,h'⟩;exact a (h' e4)
     ·rw[if_pos hn,if_neg hcap,Xe (λhh=>hcap hh.2.1)]
    ·rw[if_neg hn,Xe (λhh=>hn hh.1)]
   have inner:∀ (v:Int) (good:(Int×Int×Unit) ⊕ (Int×Bool)),((∀ (j:Nat) (q:YQ),j<k->(Zn.Xi c)[j]?=some q->YQ.Name q≠YQ.Name p)->V3 c v (k:Int) p (k:Int)=some (.inr good))->
     Zo (λv'=>V3 c v (k:Int) p v'.1) ((0:Int),())=some (sel (∀ j,j<k->∀ q,(Zn.Xi c)[j]?=some q->YQ.Name q≠YQ.Name p) good (.inr (0,false))):=by
    intro v good hg;refine ZrK k (by omega) (λj=>∀ q,(Zn.Xi c)[j]?=some q->YQ.Name q≠YQ.Name p) (λj hj=>?_) (λhh=>hg (λj q hj hq=>hh j hj q hq));obtain ⟨q,hq⟩:∃ q,(Zn.Xi c)[j]?=some q:=⟨_,List.getElem?_eq_getElem (by omega)⟩;simp only[V3,show (j:Int)<(k:Int) from by omega,if_true,Zp,hq,Bq];refine ⟨λhh=>by rw[if_neg (hh q rfl)],λhh=>?_⟩;rw[if_pos];apply Classical.byContradiction;intro hne;exact hh (λq' hq'=>by injection hq' with hq';subst hq';exact hne)
   simp only[Zal,show (k:Int)<((Zn.Xi c).length:Int) from by omega,if_true,Zp,hx,Bq];constructor
   ·rintro ⟨⟨a,b⟩,d⟩
    rw[inner _ (.inl (((((Zn.Xi c).take (k+1)).countP (λp=>YQ.Clock p):Nat):Int),((k+1:Nat):Int),())) (λ_=>by
     rw[rest,XI ⟨a,d⟩,hnext];by_cases hc:YQ.Clock p=true
     ·rw[if_pos hc,if_pos hc,Xm (by omega)]
     ·rw[if_neg hc,if_neg hc];rfl),XI (λj hj q hq=>b j q hj hq)]
   ·intro hh
    rw[inner _ (.inr (0,false)) (λhn=>by
     rw[rest,Xe (λh'=>hh ⟨⟨h'.1,hn⟩,h'.2⟩)])]
    by_cases hP:∀ j,j<k->∀ q,(Zn.Xi c)[j]?=some q->YQ.Name q≠YQ.Name p
    ·rw[XI hP]
    ·rw[Xe hP])
  (λ_=>by simp only[Zal,Int.lt_irrefl,if_false,List.take_length];rfl)
 refine (show Zo (λv=>Zal c v.1 v.2.1) ((0:Int),(0:Int),())=_ from this).trans ?_;congr 1;have e:Zfu (Zn.Xi c) (λk p=>(Za9 (YQ.Name p)=true/\∀ (j:Nat) (q:YQ),j<k->(Zn.Xi c)[j]?=some q->YQ.Name q≠YQ.Name p)/\Zu2 (Zn.Xi c).length k p)<->Zmb (Zn.Xi c):=by
  constructor
  ·intro hA
   refine ⟨by omega,by omega,λj s hj hs'=>?_,λk p hp=>(hA k p hp).2⟩;simp only[ZgX,List.getElem?_map,Option.map_eq_some_iff] at hs';obtain ⟨q,hq,rfl⟩:=hs';exact ⟨(hA j q hq).1.1,Zmr.2 (hA j q hq).1.2⟩
  ·intro hh k p hp
   have hk:=(List.getElem?_eq_some_iff.1 hp).1;have hn:=hh.2.2.1 k (YQ.Name p) hk (by simp[ZgX,hp]);exact ⟨⟨hn.1,Zmr.1 hn.2⟩,hh.2.2.2 k p hp⟩
 rw[propext e]
def ZtU (l:List YQ) (i:Int):Bool:=match l[i.toNat]? with
 | some p=>YQ.Clock p
 | none=>false
def Zou (c:Zn) (a:ZG):Prop :=
  (0<=ZG.From a/\ZG.From a<=((Zn.Xi c).length:Int)-2)/\(0<=ZG.To a/\ZG.To a<=((Zn.Xi c).length:Int)-1)/\
  ((ZG.Kind a=1/\ZtU (Zn.Xi c) (ZG.From a)=false/\ZG.To a=((Zn.Xi c).length:Int)-1/\(1<=ZG.JZ a/\ZG.JZ a<=3)/\Zc6 (ZG.Delay a) true/\Zc6 (ZG.QU a) true)\/
   ((ZG.Kind a=2\/ZG.Kind a=3)/\ZtU (Zn.Xi c) (ZG.From a)=true/\ZG.To a=((Zn.Xi c).length:Int)-1/\ZG.JZ a=0/\Zc6 (ZG.Delay a) true/\Zc6 (ZG.QU a) true)\/
   ((ZG.Kind a=4\/ZG.Kind a=5)/\ZtU (Zn.Xi c) (ZG.From a)=true/\ZG.To a<((Zn.Xi c).length:Int)-1/\ZtU (Zn.Xi c) (ZG.To a)=false/\ZG.JZ a=0/\Zc6 (ZG.Delay a) false/\(ZG.QU a).length=0))
theorem Zou.kind {c:Zn} {a:ZG} (h:Zou c a):1<=ZG.Kind a/\ZG.Kind a<=5:=by
 rcases h.2.2 with h | h | h
 all_goals grind
theorem QB {P Q:Prop} {_:Decidable P} {m:Option Bool} (hm:P->m=some (tr Q)):(if P then m else some false)=some (tr (P/\Q)):=by
 by_cases h:P
 ·grind
 ·rw[if_neg h,ZP (λq=>h q.1)]
theorem Zhw {P Q:Prop} {_:Decidable P} {m:Option Bool} (hm:¬P->m=some (tr Q)):(if P then some false else m)=some (tr (¬P/\Q)):=by
 by_cases h:P
 ·rw[if_pos h,ZP (λq=>q.1 h)]
 grind
theorem Zcd {P:Prop} {b:Bool} (h:b=true<->P):some b=some (tr P):=by rw[Zqr h]
theorem ZgH {m:Option Bool} {P Q:Prop} (h:m=some (tr P)) (hpq:P<->Q):m=some (tr Q):=by rw[h,propext hpq]
theorem ZtE {Q:Prop} (h:¬Q):(some false:Option Bool)=some (tr Q):=by rw[ZP h]
theorem ZdT {P:Prop} {m:Option Bool} (h:m=some (tr P)):(m.bind λb=>some b)=some (tr P):=by rw[h];rfl
theorem YR {P Q:Prop} {m m2:Option Bool} (h:m=some (tr P)) (h2:P->m2=some (tr Q)):(m.bind λb=>if b=true then m2 else some false)=some (tr (P/\Q)):=by
 rw[h,Bq];by_cases hp:P
 ·rw[if_pos (ZR hp),h2 hp];grind
 ·rw[if_neg (by rw[ZP hp];simp),ZP (λq=>hp q.1)]
theorem Zxn {P Q:Prop} {m m2:Option Bool} (h:m=some (tr P)) (h2:¬P->m2=some (tr Q)):(m.bind λb=>if b=true then some false else m2)=some (tr (¬P/\Q)):=by
 rw[h,Bq];by_cases hp:P
 ·rw[if_pos (ZR hp),ZP (λq=>q.1 hp)]
 ·rw[if_neg (by rw[ZP hp];simp),h2 hp];grind
theorem Q9 (n a b:Int):ZQ n a b=some (tr (a<=n/\n<=b)):=by rw[Zaj];exact Zcd (QO _ _ _)
theorem QE (n a b:Int):ZV n a b=some (tr (a<=n/\n<=b)):=by rw[Jp];exact Zcd (QO _ _ _)
theorem ZAK {l:List YQ} {i:Int} (h0:0<=i) (h1:i<l.length):∃ p,atI l i=some p/\ZtU l i=YQ.Clock p:=by
 obtain ⟨p,h2,h3⟩:=Zme h0 h1;exact ⟨p,h2,by simp[ZtU,h3]⟩
theorem ZsZ (c:Zn) (a:ZG) (hp:sm (.sl Zge) (Zn.Xi c)) (hd:sm (.sl Xw) (ZG.Delay a)) (hw:sm (.sl Xw) (ZG.QU a)) (h2:2<=(Zn.Xi c).length):ZjY c a=some (tr (Zou c a)):=by
 unfold ZjY;have hs:=ZH hp;have e1:Wq (((Zn.Xi c).length:Int)-1)=((Zn.Xi c).length:Int)-1:=YT (by omega) (by omega);have e2:Wq (((Zn.Xi c).length:Int)-1-1)=((Zn.Xi c).length:Int)-2:=by rw[YT (by omega) (by omega)];omega
 rw[e1,e2];refine ZgH (YR (Q9 _ _ _) (λhF=>YR (Q9 _ _ _) (λhT=>?_))) (Q:=Zou c a) (P:=(0<=ZG.From a/\ZG.From a<=((Zn.Xi c).length:Int)-2)/\(0<=ZG.To a/\ZG.To a<=((Zn.Xi c).length:Int)-1)/\Zou c a) ⟨λhh=>hh.2.2,λhh=>⟨hh.1,hh.2.1,hh⟩⟩;obtain ⟨p,hp1,hp2⟩:=ZAK (l:=Zn.Xi c) hF.1 (by omega);rw[hp1,Bq];have hdl:=Zj4 hd;have hsl:=Zj4 hw;have tt:∀ b,(YO (ZG.Delay a) b).bind (λx=>if x=true then (YO (ZG.QU a) b).bind (λy=>some y) else some false)=some (tr (Zc6 (ZG.Delay a) b/\Zc6 (ZG.QU a) b)):=λb=>YR (ZfL _ _ hdl) (λ_=>ZdT (ZfL _ _ hsl));have tz:(YO (ZG.Delay a) false).bind (λx=>if x=true then some (Decidable.decide (((ZG.QU a).length:Int)=(0:Int))) else some false)=some (tr (Zc6 (ZG.Delay a) false/\(ZG.QU a).length=0)):=YR (ZfL _ _ hdl) (λ_=>Zcd (by grind));unfold Zou;rw[hp2];by_cases k1:ZG.Kind a=1
 ·simp only[k1,if_true]
  refine ZgH (Zhw (λhc=>QB (λhl=>YR (Q9 _ _ _) (λ_=>tt true)))) ?_;grind
 by_cases k2:ZG.Kind a=2
 ·simp only[k2,if_true,Int.reduceEq,if_false]
  refine ZgH (QB (λhc=>QB (λhl=>QB (λ_=>tt true)))) ?_;grind
 by_cases k3:ZG.Kind a=3
 ·simp only[k3,if_true,Int.reduceEq,if_false]
  refine ZgH (QB (λhc=>QB (λhl=>QB (λ_=>tt true)))) ?_;grind
 have chk:(if YQ.Clock p=true then (if ZG.To a<((Zn.Xi c).length:Int)-1 then (atI (Zn.Xi c) (ZG.To a)).bind (λx1=>if YQ.Clock x1=true then some false else if ZG.JZ a=0 then (YO (ZG.Delay a) false).bind (λx=>if x=true then some (Decidable.decide (((ZG.QU a).length:Int)=(0:Int))) else some false) else some false) else some false) else some false) =
   some (tr (YQ.Clock p=true/\ZG.To a<((Zn.Xi c).length:Int)-1/\ZtU (Zn.Xi c) (ZG.To a)=false/\ZG.JZ a=0/\Zc6 (ZG.Delay a) false/\(ZG.QU a).length=0)):=by
  refine QB (λ_=>QB (λhl=>?_));obtain ⟨q,hq1,hq2⟩:=ZAK (l:=Zn.Xi c) hT.1 (by omega);rw[hq1,Bq,hq2];refine ZgH (Zhw (λ_=>QB (λ_=>tz))) ?_;grind
 by_cases k4:ZG.Kind a=4
 ·grind
 by_cases k5:ZG.Kind a=5
 ·grind
 ·simp only[k1,k2,k3,k4,k5,if_false]
  refine ZtE ?_;grind
def ZmG (l:List YQ):Int:=Za5 (λp=>YQ.Clock p) l
theorem ZnI (c:Zn) (h:sm (.sl Zge) (Zn.Xi c)):ZeM c=some (ZmG (Zn.Xi c)):=by
 unfold ZeM;rw[VD (Y0 h) (λp=>YQ.Clock p) (λp _=>rfl),Bq];rfl
theorem ZdU (c:Zn) (h:sm (.sl Zge) (Zn.Xi c)):Zbz c=some (((Zn.Xi c).length:Int)-1):=by
 have hs:=ZH h;show some (Wq (((Zn.Xi c).length:Int)-1))=_;rw[YT (by omega) (by omega)]
theorem ZgT (c:Zn) (i:Int) (h:sm (.sl Zge) (Zn.Xi c)):ZaN c i=some (tr (0<=i/\i<=((Zn.Xi c).length:Int)-2)):=by
 have hs:=ZH h;unfold ZaN;rw[ZdU c h,Bq,YT (by omega) (by omega)];refine ZgH (ZdT (QE _ _ _)) ?_;omega
def ZBw (c:Zn) (a:ZG):Prop :=
 ((ZG.Kind a=4\/ZG.Kind a=5)/\ZG.JZ a=0/\(ZG.QU a).length=0/\Zc6 (ZG.Delay a) false/\ZG.From a=ZmG (Zn.Xi c)/\0<=ZG.From a/\(0<=ZG.To a/\ZG.To a<=((Zn.Xi c).length:Int)-2)/\ZG.To a≠ZG.From a)\/
 (¬(ZG.Kind a=4\/ZG.Kind a=5)/\Zc6 (ZG.Delay a) true/\Zc6 (ZG.QU a) true/\ZG.To a=((Zn.Xi c).length:Int)-1/\(0<=ZG.From a/\ZG.From a<=((Zn.Xi c).length:Int)-2)/\
  ((ZG.Kind a=1/\ZtU (Zn.Xi c) (ZG.From a)=false/\(1<=ZG.JZ a/\ZG.JZ a<=3))\/((ZG.Kind a=2\/ZG.Kind a=3)/\ZtU (Zn.Xi c) (ZG.From a)=true/\ZG.JZ a=0)))
theorem Zq8 (k:Int):Zih k=some (tr (k=4\/k=5)):=by
 unfold Zih;split
 ·rename_i h;rw[ZR (.inl h)]
 ·rename_i h
  exact Zcd (by grind)
theorem Zud (c:Zn) (a:ZG) (hp:sm (.sl Zge) (Zn.Xi c)) (hd:sm (.sl Xw) (ZG.Delay a)) (hw:sm (.sl Xw) (ZG.QU a)):ZeO c a=some (tr (ZBw c a)):=by
 unfold ZeO;have hdl:=Zj4 hd;have hsl:=Zj4 hw;rw[Zq8,Bq];by_cases hk:ZG.Kind a=4\/ZG.Kind a=5
 ·rw[if_pos (ZR hk)]
  refine ZgH (QB (λ_=>QB (λ_=>YR (Zfw _ _ hdl) (λ_=>?_)))) (P:=ZG.JZ a=0/\((ZG.QU a).length:Int)=0/\Zc6 (ZG.Delay a) false/\(ZG.From a=ZmG (Zn.Xi c)/\0<=ZG.From a/\(0<=ZG.To a/\ZG.To a<=((Zn.Xi c).length:Int)-2)/\ZG.To a≠ZG.From a)) ?_
  ·rw[ZnI c hp,Bq]
   refine QB (λ_=>QB (λ_=>YR (ZgT c _ hp) (λ_=>Zcd ?_)));grind
  ·unfold ZBw
   grind
 ·rw[if_neg (by rw[ZP hk];simp)]
  refine ZgH (YR (Zfw _ _ hdl) (λ_=>YR (Zfw _ _ hsl) (λ_=>?_))) (P:=Zc6 (ZG.Delay a) true/\Zc6 (ZG.QU a) true/\(ZG.To a=((Zn.Xi c).length:Int)-1/\(0<=ZG.From a/\ZG.From a<=((Zn.Xi c).length:Int)-2)/\
   ((ZG.Kind a=1/\ZtU (Zn.Xi c) (ZG.From a)=false/\(1<=ZG.JZ a/\ZG.JZ a<=3))\/((ZG.Kind a=2\/ZG.Kind a=3)/\ZtU (Zn.Xi c) (ZG.From a)=true/\ZG.JZ a=0)))) ?_
  ·rw[ZdU c hp,Bq]
   refine QB (λ_=>YR (ZgT c _ hp) (λhF=>?_));obtain ⟨p,hp1,hp2⟩:=ZAK (l:=Zn.Xi c) hF.1 (by omega);rw[hp1,hp2];simp only[Bq];by_cases k1:ZG.Kind a=1
   ·simp only[k1,if_true]
    refine ZgH (Zhw (λ_=>ZdT (QE _ _ _))) ?_;grind
   by_cases k2:ZG.Kind a=2
   ·simp only[k2,if_true,Int.reduceEq,if_false]
    refine ZgH (QB (λ_=>Zcd (decide_eq_true_iff))) ?_;grind
   by_cases k3:ZG.Kind a=3
   ·simp only[k3,if_true,Int.reduceEq,if_false]
    refine ZgH (QB (λ_=>Zcd (decide_eq_true_iff))) ?_;grind
   ·simp only[k1,k2,k3,if_false]
    refine ZtE ?_;grind
  ·unfold ZBw
   grind
def ZhS (o a:ZG):Prop:=ZG.Kind o=ZG.Kind a/\ZG.From o=ZG.From a/\ZG.To o=ZG.To a
def Apart (l:List ZG) (k:Nat) (a:ZG):Prop:=∀ (j:Nat) (o:ZG),j<k->l[j]?=some o->¬ZhS o a
structure Zs8 (c:Zn):Prop where
 name:(Zn.Name c).length<=4611686018427387904
 pins:sm (.sl Zge) (Zn.Xi c)
 arcs:sm (.sl ZgE) (Zn.Zay c)
 truth:sm (.sl (.int .i64)) (Zn.Truth c)
theorem ZDn {c:Zn} (h:sm V8 c):Zs8 c:=⟨ZhZ h.1,h.2.2.1,h.2.2.2.1,h.2.2.2.2.1⟩
theorem ZGB {a:ZG} (h:sm ZgE a):sm (.sl Xw) (ZG.Delay a)/\sm (.sl Xw) (ZG.QU a):=⟨h.2.2.2.2.1,h.2.2.2.2.2.1⟩
theorem ZnJ (o a:ZG):Vn o a=some (tr (ZhS o a)):=by
 unfold Vn ZhS;exact QB (λ_=>QB (λ_=>Zcd decide_eq_true_iff))
theorem Zq6 (c:Zn) (h:Zs8 c):ZcP c=some (tr ((Zn.Zay c).length<=8/\Zfu (Zn.Zay c) (λk a=>ZBw c a/\Apart (Zn.Zay c) k a))):=by
 unfold ZcP;have hs:=ZH h.arcs;rw[Vt (Y0 h.arcs) (λk a=>ZBw c a/\Apart (Zn.Zay c) k a) (bad:=false) (good:=decide ((Zn.Zay c).length<=8))
  (λk a hx hk _=>by
   obtain ⟨h1,h2⟩:=ZGB (ZiF h.arcs hx);simp only[Zbf,show (k:Int)<((Zn.Zay c).length:Int) from by omega,if_true,Zp,hx,Bq,Zud c a h.pins h1 h2];by_cases hA:ZBw c a
   ·rw[if_pos (ZR hA),Zh (by omega),Zh (by omega)]
    simp only[Int.toNat_natCast,Int.toNat_zero,List.drop_zero,Nat.sub_zero];rw[QS (by show ((Zn.Zay c).take k).length<=4611686018427387904;grind) (λo=>tr (ZhS o a)) (λo _=>ZnJ o a),Bq];have e:((Zn.Zay c).take k).any (λo=>tr (ZhS o a))=true<->¬Apart (Zn.Zay c) k a:=by
     rw[List.any_eq_true];constructor
     ·rintro ⟨o,ho,hs⟩ hap
      obtain ⟨j,hj⟩:=List.mem_iff_getElem?.1 ho;rw[List.getElem?_take] at hj;split at hj
      ·rename_i hjk;exact hap j o hjk hj ((Xx _).1 hs)
      ·cases hj
     ·intro hn
      apply Classical.byContradiction;intro hno;refine hn (λj o hj ho hs=>hno ⟨o,?_,ZR hs⟩);exact List.mem_iff_getElem?.2 ⟨j,by grind⟩
    grind
   ·rw[if_neg (by rw[ZP hA];simp)]
    grind)
  (λ_=>by
   simp only[Zbf,Int.lt_irrefl,if_false];congr 2;grind)]
 congr 1;refine Zfv ?_;rw[Xx];by_cases hA:Zfu (Zn.Zay c) (λk a=>ZBw c a/\Apart (Zn.Zay c) k a)
 ·rw[XI hA,decide_eq_true_eq];grind
 ·rw[Xe hA];grind
def ZuY (c:Zn) (k:Int):Prop:=∃ a∈Zn.Zay c,ZG.Kind a=k
theorem Zfy (c:Zn) (k:Int) (h:Zs8 c):Jj c k=some (tr (ZuY c k)):=by
 unfold Jj;rw[Vu (Y0 h.arcs) (λa=>decide (ZG.Kind a=k)) (λa _=>rfl),Bq];refine Zcd ?_;rw[List.any_eq_true];simp only[decide_eq_true_eq,ZuY]
def Zh7 (c:Zn):Prop :=
 (Zn.Kind c=1/\Zqh (Zn.Xi c)=0/\(Zn.Truth c).length=2 ^ ((Zn.Xi c).length-1)/\ZiZ (Zn.Truth c) 0 1)\/
 (Zn.Kind c=2/\Zqh (Zn.Xi c)=1/\(Zn.Truth c).length=0/\¬ZuY c 1/\(ZuY c 2<->¬ZuY c 3))\/
 (Zn.Kind c=3/\Zqh (Zn.Xi c)=1/\(Zn.Truth c).length=0/\ZuY c 1/\ZuY c 2/\¬ZuY c 3)
theorem ZAO {n:Nat} (h:n<=4):(2:Nat) ^ n<=16:=by
 calc (2:Nat) ^ n<=2 ^ 4:=Nat.pow_le_pow_right (by omega) h
  _=16:=rfl
theorem ZFW {m:Nat} (h:m<=4):Wq ((1:Int)*(2:Int) ^ min m (IntKind.bits IntKind.i64))=((2 ^ m:Nat):Int):=by
 have hb:min m (IntKind.bits IntKind.i64)=m:=Nat.min_eq_left (by show m<=64;omega);have e:(1:Int)*(2:Int) ^ m=((2 ^ m:Nat):Int):=by simp
 rw[hb,e];have h16:=ZAO h;clear hb e;generalize 2 ^ m=g at h16 ⊢;rw[YT (by omega) (by omega)]
theorem ZpW (c:Zn) (h:Zs8 c) (hp:Zmb (Zn.Xi c)):ZbY c=some (tr (Zh7 c)):=by
 unfold ZbY;have h2:=hp.1;have h5:=hp.2.1;refine (show Zo (λv=>QI c v.1 v.2.1) ((0:Int),(0:Int),())=_ from Zbo (l:=Zn.Xi c) (ρ:=Bool) (λk=>((((Zn.Xi c).take k).countP (λp=>YQ.Clock p):Int),(k:Int),())) (step:=λv=>QI c v.1 v.2.1)
  (λk p hx hk=>by
   have hcnt:((Zn.Xi c).take k).countP (λp=>YQ.Clock p)<=5:=by
    have h1:=List.countP_le_length (p:=λp=>YQ.Clock p) (l:=(Zn.Xi c).take k);grind
   have hnext:((Zn.Xi c).take (k+1)).countP (λp=>YQ.Clock p)=((Zn.Xi c).take k).countP (λp=>YQ.Clock p)+if YQ.Clock p=true then 1 else 0:=by
    rw[YP hx,List.countP_append];grind
   simp only[QI,show (k:Int)<((Zn.Xi c).length:Int) from by omega,if_true,Zp,hx,Bq,hnext];by_cases hc:YQ.Clock p=true
   ·rw[if_pos hc,if_pos hc,Xm (by omega),Xm (by omega)]
   ·rw[if_neg hc,if_neg hc,Xm (by omega)];rfl)
  ?_)
 have hout:=ZdU c h.pins;simp only[QI,Int.lt_irrefl,if_false,List.take_length,hout,Bq,show (((Zn.Xi c).length:Int)-1).toNat=(Zn.Xi c).length-1 from by omega,ZFW (show (Zn.Xi c).length-1<=4 by omega)];have e00:((Zn.Xi c).countP (λp=>YQ.Clock p):Int)=0<->Zqh (Zn.Xi c)=0:=by unfold Zqh;omega
 have e01:((Zn.Xi c).countP (λp=>YQ.Clock p):Int)=1<->Zqh (Zn.Xi c)=1:=by unfold Zqh;omega
 unfold Zh7;by_cases k1:Zn.Kind c=1
 ·simp only[k1,if_true]
  by_cases hc:Zqh (Zn.Xi c)=0
  ·rw[if_pos (e00.2 hc),Zh (by omega)]
   by_cases ht:(Zn.Truth c).length=2 ^ ((Zn.Xi c).length-1)
   ·rw[if_pos (by rw[ht]),ZcT _ _ _ (Y0 h.truth),Bq]
    congr 2;refine (Zqr ?_).symm;rw[Znp];grind
   ·rw[if_neg (by omega),ZP (by grind)]
  ·rw[if_neg (λhh=>hc (e00.1 hh)),ZP (by grind)]
 by_cases k2:Zn.Kind c=2
 ·simp only[k2,if_true,Int.reduceEq,if_false]
  by_cases hc:Zqh (Zn.Xi c)=1
  ·rw[if_pos (e01.2 hc)]
   by_cases ht:(Zn.Truth c).length=0
   ·rw[if_pos (by omega),Zfy c 1 h,Bq]
    by_cases h1:ZuY c 1
    ·rw[if_pos (ZR h1),ZP (by grind)]
    ·rw[if_neg (by rw[ZP h1];simp),Zfy c 2 h,Zfy c 3 h]
     simp only[Bq];congr 2;refine (Zqr ?_).symm;by_cases a:ZuY c 2<;>by_cases b:ZuY c 3<;>simp only[ZR,ZP,a,b,not_false_eq_true]<;>grind
   ·rw[if_neg (by omega),ZP (by grind)]
  ·rw[if_neg (λhh=>hc (e01.1 hh)),ZP (by grind)]
 by_cases k3:Zn.Kind c=3
 ·simp only[k3,if_true,Int.reduceEq,if_false]
  by_cases hc:Zqh (Zn.Xi c)=1
  ·rw[if_pos (e01.2 hc)]
   by_cases ht:(Zn.Truth c).length=0
   ·rw[if_pos (by omega),Zfy c 1 h,Bq]
    by_cases h1:ZuY c 1
    ·rw[if_pos (ZR h1),Zfy c 2 h,Bq]
     by_cases h2:ZuY c 2
     ·rw[if_pos (ZR h2),Zfy c 3 h,Bq]
      congr 2;refine (Zqr ?_).symm;rw[Bool.not_eq_true',<-Bool.not_eq_true,Xx];grind
     ·rw[if_neg (by rw[ZP h2];simp),ZP (by grind)]
    ·rw[if_neg (by rw[ZP h1];simp),ZP (by grind)]
   ·rw[if_neg (by omega),ZP (by grind)]
  ·rw[if_neg (λhh=>hc (e01.1 hh)),ZP (by grind)]
 ·simp only[k1,k2,k3,if_false]
  rw[ZP (by grind)]
def ZFQ (c:Zn):Prop:=Za9 (Zn.Name c)=true/\Zmb (Zn.Xi c)/\((Zn.Zay c).length<=8/\Zfu (Zn.Zay c) (λk a=>ZBw c a/\Apart (Zn.Zay c) k a))/\(0<=Zn.ZBy c/\Zn.ZBy c<=100000)/\(0<=Zn.Zl9 c/\Zn.Zl9 c<=100000)/\Zh7 c
def Zl8 (c:Zn):Prop:=Za9 (Zn.Name c)=true/\Zmb (Zn.Xi c)/\((Zn.Zay c).length<=8/\Zfu (Zn.Zay c) (λk a=>Zou c a/\Apart (Zn.Zay c) k a))/\(0<=Zn.ZBy c/\Zn.ZBy c<=100000)/\(0<=Zn.Zl9 c/\Zn.Zl9 c<=100000)/\Zh7 c
theorem ZCr {l:List YQ} {i j:Nat} {p q:YQ} (hij:i<j) (hp:l[i]?=some p) (hq:l[j]?=some q) (cp:YQ.Clock p=true) (cq:YQ.Clock q=true):2<=Zqh l:=by
 unfold Zqh;have e:l.countP (λp=>YQ.Clock p)=(l.take j).countP (λp=>YQ.Clock p)+(l.drop j).countP (λp=>YQ.Clock p):=by rw[<-List.countP_append,List.take_append_drop]
 have h1:0<(l.take j).countP (λp=>YQ.Clock p):=List.countP_pos_iff.2 ⟨p,List.mem_iff_getElem?.2 ⟨i,by grind⟩,cp⟩;have h2:0<(l.drop j).countP (λp=>YQ.Clock p):=List.countP_pos_iff.2 ⟨q,List.mem_iff_getElem?.2 ⟨0,by grind⟩,cq⟩;omega
theorem Ztc {l:List YQ} (h:Zqh l<=1) {i:Int} (h0:0<=i):ZtU l i=true<->i=ZmG l:=by
 unfold ZmG Za5 ZtU;constructor
 ·intro hc
  split at hc
  ·rename_i p hp
   split
   ·rename_i j hj
    obtain ⟨hj1,hj2,hj3⟩:=List.findIdx?_eq_some_iff_getElem.1 hj;have hjg:l[j]?=some l[j]:=List.getElem?_eq_getElem hj1;rcases Nat.lt_trichotomy i.toNat j with hlt | heq | hlt
    ·grind
    ·omega
    ·have:=ZCr hlt hjg hp hj2 hc;omega
   grind
  ·cases hc
 ·intro hi
  split at hi
  ·rename_i j hj
   obtain ⟨hj1,hj2,hj3⟩:=List.findIdx?_eq_some_iff_getElem.1 hj;grind
  ·omega
theorem ZyC {l:List YQ} (h:Zmb l):ZtU l ((l.length:Int)-1)=false:=by
 have h2:=h.1;have hp:l[l.length-1]?=some l[l.length-1]:=List.getElem?_eq_getElem (by omega);have:=((h.2.2.2 _ _ hp).2.1 (by omega)).2.2;unfold ZtU;rw[show ((l.length:Int)-1).toNat=l.length-1 by omega,hp];exact this
theorem Zzy {c:Zn} (hp:Zmb (Zn.Xi c)) (hk:Zqh (Zn.Xi c)<=1) (a:ZG):ZBw c a<->Zou c a:=by
 have h2:=hp.1;have hF:0<=ZG.From a->(ZtU (Zn.Xi c) (ZG.From a)=true<->ZG.From a=ZmG (Zn.Xi c)):=λh=>Ztc hk h;have hT:0<=ZG.To a->(ZtU (Zn.Xi c) (ZG.To a)=true<->ZG.To a=ZmG (Zn.Xi c)):=λh=>Ztc hk h;have hlast:=ZyC hp;have hfr:∀ i,ZtU (Zn.Xi c) i=true->i<((Zn.Xi c).length:Int):=by
  intro i hi;unfold ZtU at hi;grind
 unfold ZBw Zou;grind
theorem Zh7.Zqh {c:Zn} (h:Zh7 c):Zqh (Zn.Xi c)<=1:=by
 rcases h with h | h | h
 all_goals grind
theorem ZBM (c:Zn):ZFQ c<->Zl8 c:=by
 unfold ZFQ Zl8;constructor
 ·rintro ⟨a,b,⟨c1,d⟩,e,f,g⟩
  exact ⟨a,b,⟨c1,λk x hx=>⟨(Zzy b g.Zqh x).1 (d k x hx).1,(d k x hx).2⟩⟩,e,f,g⟩
 ·rintro ⟨a,b,⟨c1,d⟩,e,f,g⟩
  exact ⟨a,b,⟨c1,λk x hx=>⟨(Zzy b g.Zqh x).2 (d k x hx).1,(d k x hx).2⟩⟩,e,f,g⟩
theorem Zsw (c:Zn) (h:sm V8 c):Zjz c=some (tr (Zl8 c)):=by
 have hc:=ZDn h;unfold Zjz;refine ZgH (YR (by rw[ZiQ];exact Zcd Iff.rfl) (λ_=>YR (Zq7 _ hc.pins) (λhp=>YR (Zq6 c hc) (λ_=>YR (QE _ _ _) (λ_=>YR (QE _ _ _) (λ_=>ZdT (ZpW c hc hp))))))) ?_;exact (ZBM c)
def ZgO (l:List ZG):List Int:=(List.range 6).map (λ(j:Nat)=>((l.countP (λa=>decide (ZG.Kind a=(j:Int))):Nat):Int))
theorem ZdZ (l:List ZG) {j:Nat} (h:j<6):(ZgO l)[j]?=some ((l.countP (λa=>decide (ZG.Kind a=(j:Int))):Nat):Int):=by
 simp[ZgO,List.getElem?_range h]
theorem Zqn (c:Zn) (h:Zs8 c) (hk:∀ a∈Zn.Zay c,1<=ZG.Kind a/\ZG.Kind a<=5):Zhi c=some (ZgO (Zn.Zay c)):=by
 unfold Zhi;have hs:=ZH h.arcs;have h0:List.replicate (Int.toNat (6:Int)) (0:Int)=ZgO ((Zn.Zay c).take 0):=by simp[ZgO];decide
 rw[h0];refine Zbo (l:=Zn.Zay c) (ρ:=List Int) (λk=>((k:Int),ZgO ((Zn.Zay c).take k),())) (step:=λv=>Zbs c v.1 v.2.1)
  (λk a hx hlt=>?_) (by simp only[Zbs,Int.lt_irrefl,if_false,List.take_length])
 obtain ⟨k1,k5⟩:=hk a (List.mem_of_getElem? hx);have hkn:ZG.Kind a=(((ZG.Kind a).toNat:Nat):Int):=by omega
 have hcnt:∀ j:Nat,((Zn.Zay c).take k).countP (λa=>decide (ZG.Kind a=(j:Int)))<=1048576:=by
  intro j;have h1:=List.countP_le_length (p:=λa=>decide (ZG.Kind a=(j:Int))) (l:=(Zn.Zay c).take k);grind
 simp only[Zbs,show (k:Int)<((Zn.Zay c).length:Int) from by omega,if_true,Zp,hx,Bq];rw[QF (by omega) (ZdZ _ (show (ZG.Kind a).toNat<6 by omega)),Bq,Xm (hcnt _),Xm (by omega)];congr 3;rw[Prod.mk.injEq];refine ⟨?_,rfl⟩;apply List.ext_getElem?;intro j;by_cases hj:(ZG.Kind a).toNat=j
 ·subst hj
  rw[List.getElem?_set_self (by simp[ZgO];omega),ZdZ _ (by omega),YP hx,List.countP_append];grind
 ·rw[List.getElem?_set_ne hj]
  by_cases h6:j<6
  ·rw[ZdZ _ h6,ZdZ _ h6,YP hx,List.countP_append]
   grind
  ·rw[List.getElem?_eq_none (by simp[ZgO];omega),List.getElem?_eq_none (by simp[ZgO];omega)]
theorem ZqR (c:Zn) (j:Nat):0<(Zn.Zay c).countP (λa=>decide (ZG.Kind a=(j:Int)))<->ZuY c j:=by
 rw[List.countP_pos_iff];simp only[decide_eq_true_eq,ZuY]
theorem Zpv (c:Zn) (h:Zs8 c) (hp:Zmb (Zn.Xi c)) (hk1:Zn.Kind c=1) :
  Zo (λv=>Zc1 c ((Zqh (Zn.Xi c):Int),true) v.1) ((0:Int),())=some (.inr (tr (Zh7 c))):=by
 have h2:=hp.1;have h5:=hp.2.1;have hs:=ZH h.truth;have e1:Wq (((Zn.Xi c).length:Int)-1)=((Zn.Xi c).length:Int)-1:=YT (by omega) (by omega);have e2:IntKind.u64.wrap (((Zn.Xi c).length:Int)-1)=((Zn.Xi c).length:Int)-1:=IntWalk.u64_in _ (by omega);rw[Vt (Y0 h.truth) (λk x=>0<=x/\x<=1) (bad:=.inr false) (good:=.inr (tr (Zqh (Zn.Xi c)=0/\(Zn.Truth c).length=2 ^ ((Zn.Xi c).length-1))))
  (λk x hx hk _=>by
   simp only[Zc1,show (k:Int)<((Zn.Truth c).length:Int) from by omega,if_true,Zp,hx,Bq,Zaj,QO];grind)
  (λ_=>by
   simp only[Zc1,Int.lt_irrefl,if_false,e1,e2];by_cases hc:Zqh (Zn.Xi c)=0
   ·rw[if_pos (by omega),Zh (by omega),show (((Zn.Xi c).length:Int)-1).toNat=(Zn.Xi c).length-1 by omega,ZFW (by omega)]
    congr 2;congr 1;refine (Zqr ?_).symm;grind
   ·rw[if_neg (by omega),ZP (λhh=>hc hh.1)])]
 congr 1;by_cases hA:Zfu (Zn.Truth c) (λk x=>0<=x/\x<=1)
 ·rw[XI hA]
  congr 1;refine Vk ?_;have hAll:ZiZ (Zn.Truth c) 0 1:=λx hx=>by
   obtain ⟨k,hk⟩:=List.mem_iff_getElem?.1 hx;exact hA k x hk
  unfold Zh7;grind
 ·rw[Xe hA,ZP]
  intro hh;rcases hh with hh | hh | hh
  ·exact hA (λk x hk=>hh.2.2.2 x (List.mem_of_getElem? hk))
  all_goals grind
theorem ZsW (c:Zn) (hsm:sm V8 c):ZjW c=some (tr (Zl8 c)):=by
 have h:=ZDn hsm;have hs:=ZH h.arcs;unfold ZjW;rw[Zr9 c h.pins,Bq];by_cases hp':¬Zmb (Zn.Xi c)
 ·rw[Xe hp',ZP (λhh=>hp' hh.2.1)];rfl
 have hp:=Classical.not_not.1 hp';rw[XI hp];simp only[if_true];refine ZgH (YR (P:=Za9 (Zn.Name c)=true) (by rw[ZcD _ h.name];exact Zcd Iff.rfl) (λhn=>Zhw (λh8=>YR (Q9 _ _ _) (λhl=>YR (Q9 _ _ _) (λhe=>?_))))) (P:=Za9 (Zn.Name c)=true/\¬((8:Int)<((Zn.Zay c).length:Int))/\(0<=Zn.ZBy c/\Zn.ZBy c<=100000)/\(0<=Zn.Zl9 c/\Zn.Zl9 c<=100000)/\(Zfu (Zn.Zay c) (λk a=>Zou c a/\Apart (Zn.Zay c) k a)/\Zh7 c)) ?_
 ·rw[Vt (Y0 h.arcs) (λk a=>Zou c a/\Apart (Zn.Zay c) k a) (bad:=false) (good:=tr (Zh7 c))
   (λk a hx hk _=>by
    obtain ⟨h1,h2⟩:=ZGB (ZiF h.arcs hx);simp only[ZfI,show (k:Int)<((Zn.Zay c).length:Int) from by omega,if_true,Zp,hx,Bq,ZsZ c a h.pins h1 h2 hp.1];have inner:Zo (λv=>Zc0 c (k:Int) a v.1) ((0:Int),())=some (sel (∀ j,j<k->∀ o,(Zn.Zay c)[j]?=some o->¬ZhS o a) (.inl (Wq ((k:Int)+1),())) (.inr false)):=by
     refine ZrK k (by omega) (λj=>∀ o,(Zn.Zay c)[j]?=some o->¬ZhS o a) (λj hj=>?_) (λ_=>by simp only[Zc0,Int.lt_irrefl,if_false]);obtain ⟨o,ho⟩:∃ o,(Zn.Zay c)[j]?=some o:=⟨_,List.getElem?_eq_getElem (by omega)⟩;simp only[Zc0,show (j:Int)<(k:Int) from by omega,if_true,Zp,ho,Bq];have e:(∀ o',some o=some o'->¬ZhS o' a)<->¬ZhS o a:=⟨λhh=>hh o rfl,λhh o' ho'=>by grind⟩;rw[e];unfold ZhS;grind
    have eap:Apart (Zn.Zay c) k a<->(∀ j,j<k->∀ o,(Zn.Zay c)[j]?=some o->¬ZhS o a):=⟨λhh j hj o ho=>hh j o hj ho,λhh j o hj ho=>hh j hj o ho⟩;by_cases hA:Zou c a
    ·rw[if_pos (ZR hA),inner]
     constructor
     ·intro hh;rw[XI (eap.1 hh.2)]
     ·intro hh;rw[Xe (λh'=>hh ⟨hA,eap.2 h'⟩)]
    ·rw[if_neg (by rw[ZP hA];simp)]
     grind)
   (λhA=>by
    have hkinds:=Zqn c h (λa ha=>by
     obtain ⟨k,hk⟩:=List.mem_iff_getElem?.1 ha;exact (hA k a hk).1.kind)
    have g1:atI (ZgO (Zn.Zay c)) (1:Int)=some (((Zn.Zay c).countP (λa=>decide (ZG.Kind a=((1:Nat):Int))):Nat):Int):=QF (by omega) (ZdZ _ (by omega));have g2:atI (ZgO (Zn.Zay c)) (2:Int)=some (((Zn.Zay c).countP (λa=>decide (ZG.Kind a=((2:Nat):Int))):Nat):Int):=QF (by omega) (ZdZ _ (by omega));have g3:atI (ZgO (Zn.Zay c)) (3:Int)=some (((Zn.Zay c).countP (λa=>decide (ZG.Kind a=((3:Nat):Int))):Nat):Int):=QF (by omega) (ZdZ _ (by omega));have c1:=ZqR c 1;have c2:=ZqR c 2;have c3:=ZqR c 3;simp only[ZfI,Int.lt_irrefl,if_false,hkinds,Bq,g1,g2,g3];generalize (Zn.Zay c).countP (λa=>decide (ZG.Kind a=((1:Nat):Int)))=n1 at c1 ⊢;generalize (Zn.Zay c).countP (λa=>decide (ZG.Kind a=((2:Nat):Int)))=n2 at c2 ⊢;generalize (Zn.Zay c).countP (λa=>decide (ZG.Kind a=((3:Nat):Int)))=n3 at c3 ⊢;by_cases k1:Zn.Kind c=1
    ·rw[if_pos k1]
     exact Zpv c h hp k1
    rw[if_neg k1];have hgoal:∀ (b:Bool),(b=true<->Zh7 c)->(some (.inr b):Option ((Int×Unit) ⊕ Bool))=some (.inr (tr (Zh7 c))):=λb hb=>by rw[Zqr hb]
    have c1':ZuY c 1<->0<n1:=c1.symm;have c2':ZuY c 2<->0<n2:=c2.symm;have c3':ZuY c 3<->0<n3:=c3.symm;have hKO:Zh7 c<->(Zn.Kind c=2/\Zqh (Zn.Xi c)=1/\(Zn.Truth c).length=0/\¬0<n1/\(0<n2<->¬0<n3))\/(Zn.Kind c=3/\Zqh (Zn.Xi c)=1/\(Zn.Truth c).length=0/\0<n1/\0<n2/\¬0<n3):=by
     unfold Zh7
     simp_all
    grind)]
  congr 1;by_cases hA:Zfu (Zn.Zay c) (λk a=>Zou c a/\Apart (Zn.Zay c) k a)
  ·rw[XI hA];grind
  ·rw[Xe hA,ZP (λx=>hA x.1)]
 ·unfold Zl8
  grind
theorem Zx2 {α:Type} {l:List α} {k:Nat} {s:α}:s ∉ l.take k<->∀ (j:Nat) (q:α),j<k->l[j]?=some q->q≠s:=by
 constructor
 ·intro h j q hj hq e
  refine h (List.mem_iff_getElem?.2 ⟨j,?_⟩);grind
 ·intro h hm
  obtain ⟨j,hj⟩:=List.mem_iff_getElem?.1 hm;grind
theorem ZrN {α:Type} (f:α->List UInt8) (l:List α):Ji (l.map f) l.length<->Zfu l (λk x=>Za9 (f x)=true/\∀ (j:Nat) (q:α),j<k->l[j]?=some q->f q≠f x):=by
 constructor
 ·intro h k x hx
  have hk:=(List.getElem?_eq_some_iff.1 hx).1;obtain ⟨h1,h2⟩:=h k (f x) hk (by simp[hx]);refine ⟨h1,λj q hj hq=>Zx2.1 h2 j (f q) hj (by simp[hq])⟩
 ·intro h j s hj hs
  simp only[List.getElem?_map,Option.map_eq_some_iff] at hs;obtain ⟨x,hx,rfl⟩:=hs;obtain ⟨h1,h2⟩:=h j x hx;refine ⟨h1,Zx2.2 (λi q hi hq=>?_)⟩;grind
def Zki (l:List Zn):List (List UInt8):=l.map Zn.Name
def Zu1 (a:ZE):Prop:=(ZE.Cells a).length<=8/\(∀ c∈ZE.Cells a,Zl8 c)/\Ji (Zki (ZE.Cells a)) (ZE.Cells a).length
theorem ZCM {a:ZE} (h:sm Xf a):sm (.sl V8) (ZE.Cells a):=h.1
theorem JK {α:Type} {l:List α} {P:α->Prop}:Zfu l (λ_ x=>P x)<->∀ x∈l,P x:=by
 constructor
 ·intro h x hx
  obtain ⟨k,hk⟩:=List.mem_iff_getElem?.1 hx;exact h k x hk
 ·intro h k x hk
  grind
theorem Ze9 {P Q:Prop}:sel P (tr Q) false=tr (P/\Q):=by
 by_cases h:P
 ·rw[XI h];grind
 ·rw[Xe h,ZP (λq=>h q.1)]
theorem ZoG (a:ZE) (h:sm Xf a):ZfU a=some (tr (Zu1 a)):=by
 have hc:=ZCM h;have hs:=ZH hc;unfold ZfU;have:=ZjN (l:=ZE.Cells a) (ρ:=Bool) (λk=>((Zki (ZE.Cells a)).take k,(k:Int),())) (λ_ c=>Zl8 c) (step:=λv=>V9 a v.1 v.2.1) (bad:=false) (good:=tr ((ZE.Cells a).length<=8/\Ji (Zki (ZE.Cells a)) (ZE.Cells a).length))
  (λk c hx hk _=>by
   have hn:(Zki (ZE.Cells a))[k]?=some (Zn.Name c):=by simp[Zki,hx]
   simp only[V9,show (k:Int)<((ZE.Cells a).length:Int) from by omega,if_true,Zp,hx,Bq,Zsw c (ZiF hc hx)];rw[Zh (by grind),YP hn,Xm (by omega)];constructor
   ·intro hh;rw[if_pos (ZR hh)]
   ·intro hh;rw[if_neg (by rw[ZP hh];simp)])
  (λhA=>by
   have e0:(Zki (ZE.Cells a)).take (ZE.Cells a).length=Zki (ZE.Cells a):=by rw[show (ZE.Cells a).length=(Zki (ZE.Cells a)).length by simp[Zki],List.take_length]
   have hlen:(Zki (ZE.Cells a)).length=(ZE.Cells a).length:=by simp[Zki]
   simp only[V9,Int.lt_irrefl,if_false,e0];by_cases h8:(ZE.Cells a).length<=8
   ·rw[if_pos (by omega),V5 _ (by rw[hlen];omega),Bq,hlen]
    grind
   ·rw[if_neg (by omega),ZP (λq=>h8 q.1)])
 refine (show Zo (λv=>V9 a v.1 v.2.1) (([]:List (List UInt8)),(0:Int),())=_ from this).trans ?_;rw[Ze9];congr 1;refine Vk ?_;rw[JK];exact ⟨λq=>⟨q.2.1,q.1,q.2.2⟩,λq=>⟨q.2.1,q.1,q.2.2⟩⟩
theorem ZmN {α ρ:Type} {f:α->List UInt8} {l:List α} {x:α} {k:Nat} (hk:k<=1048576) (hkl:k<=l.length) {step:Int×Unit->Option ((Int×Unit) ⊕ ρ)} {bad good:ρ}
  (hs:∀ (j:Nat) (y:α),j<k->l[j]?=some y->step ((j:Int),())=some (if f y=f x then .inr bad else .inl (Wq ((j:Int)+1),())))
  (hx:step ((k:Int),())=some (.inr good)):Zo step ((0:Int),())=some (sel (∀ (j:Nat) (q:α),j<k->l[j]?=some q->f q≠f x) good bad):=by
 rw[ZrK k (by omega) (λj=>∀ q,l[j]?=some q->f q≠f x) (bad:=bad) (good:=good) (λj hj=>by
  grind) (λ_=>hx)]
 congr 1;have e:(∀ j,j<k->∀ q,l[j]?=some q->f q≠f x)<->(∀ (j:Nat) (q:α),j<k->l[j]?=some q->f q≠f x):=⟨λh j q hj hq=>h j hj q hq,λh j hj q hq=>h j q hj hq⟩;rw[propext e]
theorem Zpw (a:ZE) (h:sm Xf a):Zgc a=some (tr (Zu1 a)):=by
 have hc:=ZCM h;have hs:=ZH hc;unfold Zgc;rw[Vt (Y0 hc) (λk c=>Zl8 c/\∀ (j:Nat) (q:Zn),j<k->(ZE.Cells a)[j]?=some q->Zn.Name q≠Zn.Name c) (bad:=false) (good:=tr ((ZE.Cells a).length<=8))
  (λk c hx hk _=>by
   simp only[Zdg,show (k:Int)<((ZE.Cells a).length:Int) from by omega,if_true,Zp,hx,Bq,ZsW c (ZiF hc hx)];by_cases hC:Zl8 c
   ·rw[if_pos (ZR hC),ZmN (f:=Zn.Name) (l:=ZE.Cells a) (x:=c) (k:=k) (by omega) (by omega) (bad:=.inr false) (good:=.inl (Wq ((k:Int)+1),()))
     (λj y hj hy=>by
      simp only[Zdf,show (j:Int)<(k:Int) from by omega,if_true,Zp,hy,Bq];split<;>rfl)
     (by simp only[Zdf,Int.lt_irrefl,if_false])]
    constructor
    ·intro hh;rw[XI hh.2]
    ·intro hh;rw[Xe (λq=>hh ⟨hC,q⟩)]
   ·rw[if_neg (by rw[ZP hC];simp)]
    grind)
  (λ_=>by
   simp only[Zdg,Int.lt_irrefl,if_false];congr 2;exact (Zqr (by grind)).symm)]
 rw[Ze9];congr 1;refine Vk ?_;unfold Zu1;rw[Zki,ZrN,<-JK];constructor
 ·rintro ⟨q,q8⟩
  exact ⟨q8,λk x hx=>(q k x hx).1,λk x hx=>⟨(q k x hx).1.1,(q k x hx).2⟩⟩
 ·rintro ⟨q8,q1,q2⟩
  exact ⟨λk x hx=>⟨q1 k x hx,(q2 k x hx).2⟩,q8⟩
theorem ZgP (l:List (List UInt8)) (hl:l.length<=1048576) (hsm:∀ s∈l,s.length<=4611686018427387904):Zc2 l=some (tr (Ji l l.length)):=by
 unfold Zc2;rw[Vt (show Len l by show l.length<=4611686018427387904;omega) (λk s=>Za9 s=true/\∀ (j:Nat) (q:List UInt8),j<k->l[j]?=some q->id q≠id s) (bad:=false) (good:=true)
  (λk s hx hk _=>by
   simp only[Zed,show (k:Int)<(l.length:Int) from by omega,if_true,Zp,hx,Bq,ZcD s (hsm s (List.mem_of_getElem? hx))];by_cases hC:Za9 s=true
   ·rw[if_pos hC,ZmN (f:=id) (l:=l) (x:=s) (k:=k) (by omega) (by omega) (bad:=.inr false) (good:=.inl (Wq ((k:Int)+1),()))
     (λj y hj hy=>by
      simp only[Zec,show (j:Int)<(k:Int) from by omega,if_true,Zp,hy,Bq,id];split<;>rfl)
     (by simp only[Zec,Int.lt_irrefl,if_false])]
    constructor
    ·intro hh;rw[XI hh.2]
    ·intro hh;rw[Xe (λq=>hh ⟨hC,q⟩)]
   grind)
  (λ_=>by simp only[Zed,Int.lt_irrefl,if_false]),ZlC]
 congr 1;refine Vk ?_;have:=ZrN id l
 simp_all
def ZhF (d:Zf):List (List UInt8):=(Zf.Instances d).map Zk.Name
def Ze6 (d:Zf):List (List UInt8):=(Zf.Qx d).map Yj.Name
def Znn (d:Zf):Prop:=(Zf.Instances d).length<=14/\(Zf.Qw d).length<=30/\(Zf.Qx d).length<=8/\Ji (ZhF d) (ZhF d).length/\Ji (Zf.Qw d) (Zf.Qw d).length/\Ji (Ze6 d) (Ze6 d).length
theorem gather {α ρ:Type} {l:List α} (hl:l.length<=1048576) (f:α->List UInt8) {step:List (List UInt8)×Int×Unit->Option ((List (List UInt8)×Int×Unit) ⊕ ρ)} {good:ρ}
  (hs:∀ (k:Nat) (x:α) (o:List (List UInt8)),l[k]?=some x->(k:Int)<(l.length:Int)->o.length=k->step (o,(k:Int),())=Zy ((o.length+[f x].length)*16<=140737488355328) (some (.inl (o++[f x],Wq ((k:Int)+1),()))))
  (hx:step (l.map f,(l.length:Int),())=some (.inr good)):Zo step (([]:List (List UInt8)),(0:Int),())=some good:=by
 refine (show Zo step (([]:List (List UInt8)),(0:Int),())=some good from Zbo (l:=l) (λk=>((l.map f).take k,(k:Int),())) (λk x hx hk=>?_) ?_)
 ·have hn:(l.map f)[k]?=some (f x):=by simp[hx]
  have hlen:((l.map f).take k).length=k:=by grind
  rw[hs k x _ hx (by omega) hlen,Zh (by grind),YP hn,Xm (by omega)]
 ·have e0:(l.map f).take l.length=l.map f:=by rw[show l.length=(l.map f).length by simp,List.take_length]
  grind
theorem ZlV {d:Zf} (h:sm YZ d):sm (.sl Yl) (Zf.Instances d)/\sm (.sl Za3) (Zf.Qx d)/\sm (.sl .str) (Zf.Qw d):=by
 refine ⟨?_,?_,?_⟩
 ·first | exact h.1 | exact h.2.1 | exact h.2.2.1 | exact h.2.2.2.1
 ·first | exact h.1 | exact h.2.1 | exact h.2.2.1 | exact h.2.2.2.1
 ·first | exact h.1 | exact h.2.1 | exact h.2.2.1 | exact h.2.2.2.1
theorem ZtD {x:Zk} (h:sm Yl x):sm .str (Zk.Name x)/\sm (.sl (.int .i64)) (Zk.Qw x):=by
 refine ⟨?_,?_⟩
 ·first | exact h.1 | exact h.2.1 | exact h.2.2.1 | exact h.2.2.2.1
 ·first | exact h.1 | exact h.2.1 | exact h.2.2.1 | exact h.2.2.2.1
theorem ZGD {x:Yj} (h:sm Za3 x):sm .str (Yj.Name x):=by
 first | exact h.1 | exact h.2.1 | exact h.2.2.1 | exact h.2.2.2.1
theorem Zjy (d:Zf) (h:sm YZ d):ZaD d=some (tr (Znn d)):=by
 obtain ⟨h1,h2,h3⟩:=ZlV h;have s1:=ZH h1;have s2:=ZH h2;have s3:=ZH h3;unfold ZaD;refine gather (l:=Zf.Instances d) s1 Zk.Name (λk x o hx hk ho=>?_) ?_
 ·simp only[JR,hk,if_true,Zp,hx,Bq]
 simp only[JR,Int.lt_irrefl,if_false];have hi:(ZhF d).length=(Zf.Instances d).length:=by simp[ZhF]
 have hp:(Ze6 d).length=(Zf.Qx d).length:=by simp[Ze6]
 refine gather (l:=Zf.Qx d) s2 Yj.Name (λk x o hx hk ho=>?_) ?_
 ·simp only[JQ,hk,if_true,Zp,hx,Bq]
 simp only[JQ,Int.lt_irrefl,if_false];rw[show List.map Yj.Name (Zf.Qx d)=Ze6 d from rfl,show List.map Zk.Name (Zf.Instances d)=ZhF d from rfl];simp only[hi,hp,V5 _ (show (ZhF d).length<=4611686018427387904 by omega),V5 _ (show (Ze6 d).length<=4611686018427387904 by omega),V5 _ (show (Zf.Qw d).length<=4611686018427387904 by omega),Bq];unfold Znn;rw[hi,hp];by_cases a:(Zf.Instances d).length<=14
 ·rw[if_pos (by omega)]
  by_cases b:(Zf.Qw d).length<=30
  ·rw[if_pos (by omega)]
   by_cases c:(Zf.Qx d).length<=8
   ·rw[if_pos (by omega)]
    by_cases e:Ji (ZhF d) (Zf.Instances d).length
    ·rw[if_pos (ZR e)]
     by_cases f:Ji (Zf.Qw d) (Zf.Qw d).length
     ·rw[if_pos (ZR f)]
      grind
     ·rw[if_neg (by rw[ZP f];simp),ZP (λq=>f q.2.2.2.2.1)]
    ·rw[if_neg (by rw[ZP e];simp),ZP (λq=>e q.2.2.2.1)]
   ·rw[if_neg (by omega),ZP (λq=>c q.2.2.1)]
  ·rw[if_neg (by omega),ZP (λq=>b q.2.1)]
 ·rw[if_neg (by omega),ZP (λq=>a q.1)]
def Zqs (n:Nat) (s:List Int):List Int:=(List.range n).map (λ(j:Nat)=>((s.countP (λx=>decide (x=(j:Int))):Nat):Int))
theorem Znw (n:Nat) (s:List Int):(Zqs n s).length=n:=by simp[Zqs]
theorem ZtW (n:Nat):Zqs n []=List.replicate n 0:=by
 apply List.ext_getElem?;intro i;simp only[Zqs,List.countP_nil,List.getElem?_map,List.getElem?_replicate,List.getElem?_range];grind
theorem Znv {n:Nat} {s:List Int} {j:Nat} (h:j<n):(Zqs n s)[j]?=some ((s.countP (λx=>decide (x=(j:Int))):Nat):Int):=by
 simp[Zqs,h]
theorem ZDN {n:Nat} {s:List Int} {x:Int} (h0:0<=x) (h1:x<(n:Int)):atI (Zqs n s) x=some ((s.countP (λy=>decide (y=x)):Nat):Int):=by
 refine QF h0 ?_;rw[Znv (by omega),show ((x.toNat:Nat):Int)=x by omega]
theorem ZBO {n:Nat} {s:List Int} {x:Int} (h0:0<=x) (h1:x<(n:Int)):List.set (Zqs n s) (Int.toNat x) (((s.countP (λy=>decide (y=x)):Nat):Int)+1)=Zqs n (s++[x]):=by
 apply List.ext_getElem?;intro i;rw[List.getElem?_set];by_cases hi:i<n
 ·rw[Znv hi,Znv hi,List.countP_append,Znw]
  grind
 ·have h1:(Zqs n s)[i]?=none:=by rw[List.getElem?_eq_none];rw[Znw];omega
  have h2:(Zqs n (s++[x]))[i]?=none:=by rw[List.getElem?_eq_none];rw[Znw];omega
  grind
theorem Zk1 {n:Nat} {s:List Int} {x:Int} (h0:0<=x) (h1:x<(n:Int)) (hs:s.length<=1048576000) {τ:Type} (F:List Int->Option τ) :
  ((atI (Zqs n s) x).bind λy=>F (List.set (Zqs n s) (Int.toNat x) (Wq (y+1))))=F (Zqs n (s++[x])):=by
 have h2:=List.countP_le_length (p:=λy=>decide (y=x)) (l:=s);rw[ZDN h0 h1,Bq,YT (by omega) (by omega),ZBO h0 h1]
def Zc9 (x:Zk):Int:=(Zk.Qw x).getLastD 0
def Zu0 (d:Zf) (n:Int):Prop:=0<=n/\n<=((Zf.Qw d).length:Int)-1
def Zj8 (a:ZE) (d:Zf) (x:Zk):Prop :=
 (0<=Zk.Cell x/\Zk.Cell x<=((ZE.Cells a).length:Int)-1)/\(∃ c,(ZE.Cells a)[(Zk.Cell x).toNat]?=some c/\(Zk.Qw x).length=(Zn.Xi c).length)/\∀ n∈Zk.Qw x,Zu0 d n
def Zmc (d:Zf) (p:Yj):Prop:=(1<=Yj.Dir p/\Yj.Dir p<=2)/\Zu0 d (Yj.Net p)
def ZHv (d:Zf):List Int:=(Zf.Instances d).map Zc9++((Zf.Qx d).filter (λp=>decide (Yj.Dir p=1))).map Yj.Net
def Zno (d:Zf):Prop:=∀ x∈Zqs (Zf.Qw d).length (ZHv d),x=1
def ZbX (a:ZE) (d:Zf):Prop:=Zu1 a/\Znn d/\(∀ x∈Zf.Instances d,Zj8 a d x)/\(∀ p∈Zf.Qx d,Zmc d p)/\Zno d
theorem Zj8.last {a:ZE} {d:Zf} {x:Zk} (h:Zj8 a d x) (hl:Zu1 a) (hsm:(Zk.Qw x).length<=1048576):atI (Zk.Qw x) (Wq (((Zk.Qw x).length:Int)-1))=some (Zc9 x)/\Zu0 d (Zc9 x):=by
 obtain ⟨_,⟨c,hc,hn⟩,hall⟩:=h;have h2:2<=(Zn.Xi c).length:=(hl.2.1 c (List.mem_of_getElem? hc)).2.1.1;unfold Zc9;cases hN:Zk.Qw x with
 | nil=>grind
 | cons y r =>
  rw[hN] at hsm;rw[Zi1 hsm (by simp),Zp];grind
theorem ZgU (d:Zf) (n:Int) (h:sm YZ d):VG d n=some (tr (Zu0 d n)):=by
 have s3:=ZH (ZlV h).2.2;unfold VG;rw[show ZeU (Zf.Qw d)=some ((Zf.Qw d).length:Int) from rfl,Bq,YT (by omega) (by omega)];exact ZdT (QE _ _ _)
theorem ZiN (d:Zf) (a:ZE) (x:Zk) (hd:sm YZ d) (ha:sm Xf a) (hx:sm Yl x):JL d a x=some (tr (Zj8 a d x)):=by
 have sa:=ZH (ZCM ha);unfold JL;rw[show Zch (ZE.Cells a)=some ((ZE.Cells a).length:Int) from rfl,Bq,YT (by omega) (by omega)];refine ZgH (P:=(0<=Zk.Cell x/\Zk.Cell x<=((ZE.Cells a).length:Int)-1)/\Zj8 a d x) (YR (QE _ _ _) (λhw=>?_)) ⟨λq=>q.2,λq=>⟨q.1,q⟩⟩;obtain ⟨c,hc1,hc2⟩:=Zme hw.1 (show Zk.Cell x<((ZE.Cells a).length:Int) by omega);rw[hc1,Bq];refine ZgH (P:=((Zk.Qw x).length:Int)=((Zn.Xi c).length:Int)/\∀ n∈Zk.Qw x,Zu0 d n) (QB (λhe=>?_)) ?_
 ·rw[QV (Y0 (ZtD hx).2) (λn=>!tr (Zu0 d n)) (λn _=>by
   unfold QC;show (VG d n).bind _=_;rw[ZgU d n hd];rfl),Bq]
  refine Zcd ?_;rw[Bool.not_eq_true',List.any_eq_false];constructor
  ·intro q n hn
   have:=q n hn;simp only[Bool.not_eq_true',Bool.not_eq_false] at this;exact (Xx _).1 this
  ·intro q n hn
   simp only[Bool.not_eq_true',Bool.not_eq_false];exact ZR (q n hn)
 ·constructor
  ·rintro ⟨q1,q2⟩;exact ⟨hw,⟨c,hc2,by omega⟩,q2⟩
  ·rintro ⟨_,⟨c',q1,q2⟩,q3⟩
   grind
theorem Zxx {d:Zf} {k:Nat} {p:Yj} (hx:(Zf.Qx d)[k]?=some p) (s:List Int) :
  s++(((Zf.Qx d).take (k+1)).filter (λp=>decide (Yj.Dir p=1))).map Yj.Net=(if Yj.Dir p=1 then (s++(((Zf.Qx d).take k).filter (λp=>decide (Yj.Dir p=1))).map Yj.Net)++[Yj.Net p] else s++(((Zf.Qx d).take k).filter (λp=>decide (Yj.Dir p=1))).map Yj.Net):=by
 rw[YP hx,List.filter_append,List.map_append];grind
theorem ZzY {d:Zf} (k m:Nat):(((Zf.Instances d).take m).map Zc9++(((Zf.Qx d).take k).filter (λp=>decide (Yj.Dir p=1))).map Yj.Net).length<=(Zf.Instances d).length+(Zf.Qx d).length:=by
 grind
theorem ZpV (a:ZE) (d:Zf) (ha:sm Xf a) (hd:sm YZ d):Zg3 a d=some (tr (ZbX a d)):=by
 obtain ⟨h1,h2,h3⟩:=ZlV hd;have s1:=ZH h1;have s2:=ZH h2;have s3:=ZH h3;unfold Zg3;refine ZgH (P:=Zu1 a/\Znn d/\(Zfu (Zf.Instances d) (λ_ x=>Zj8 a d x)/\(Zfu (Zf.Qx d) (λ_ p=>Zmc d p)/\Zno d))) (YR (ZoG a ha) (λhL=>YR (Zjy d hd) (λhN=>?_))) (by rw[JK,JK];exact Iff.rfl);rw[Zh (by omega),Zh (by omega),Zh (by omega),Zh (by omega)];have:=ZjN (l:=Zf.Instances d) (ρ:=Bool) (λk=>((k:Int),Zqs (Zf.Qw d).length (((Zf.Instances d).take k).map Zc9),())) (λ_ x=>Zj8 a d x) (step:=λv=>Zbh a d v.1 v.2.1) (bad:=false) (good:=tr (Zfu (Zf.Qx d) (λ_ p=>Zmc d p)/\Zno d))
  (λk x hx hk _=>by
   have hsx:=ZiF h1 hx;simp only[Zbh,show (k:Int)<((Zf.Instances d).length:Int) from by omega,if_true,Zp,hx,Bq,ZiN d a x hd ha hsx];constructor
   ·intro hh
    obtain ⟨e1,e2⟩:=hh.last hL (ZH (ZtD hsx).2);rw[if_pos (ZR hh),e1,Bq,Zk1 e2.1 (by have:=e2.2;omega) (by grind) (F:=λo=>some (Sum.inl (Wq ((k:Int)+1),o,()))),YP hx,List.map_append,Xm (by omega)];rfl
   ·intro hh;rw[if_neg (by rw[ZP hh];simp)])
  (λhA=>by
   simp only[Zbh,Int.lt_irrefl,if_false,List.take_length];have:=ZjN (l:=Zf.Qx d) (ρ:=Int×List Int×Unit ⊕ Bool) (λk=>((k:Int),Zqs (Zf.Qw d).length ((Zf.Instances d).map Zc9++(((Zf.Qx d).take k).filter (λp=>decide (Yj.Dir p=1))).map Yj.Net),())) (λ_ p=>Zmc d p) (step:=λv=>JB d v.1 v.2.1) (bad:=.inr false) (good:=.inr (tr (Zno d)))
    (λk p hx hk _=>by
     have hl:=ZzY (d:=d) k (Zf.Instances d).length;rw[List.take_length] at hl;simp only[JB,show (k:Int)<((Zf.Qx d).length:Int) from by omega,if_true,Zp,hx,Bq,ZgU d _ hd,Zxx hx];by_cases d1:Yj.Dir p=1
     ·simp only[d1,if_true]
      constructor
      ·intro hh
       rw[if_pos (ZR hh.2),Zk1 hh.2.1 (by have:=hh.2.2;omega) (by omega) (F:=λo=>some (Sum.inl (Wq ((k:Int)+1),o,()))),Xm (by omega)]
      ·intro hh
       rw[if_neg (by rw[ZP (λq=>hh ⟨by omega,q⟩)];simp)]
     ·simp only[d1,if_false]
      by_cases d2:Yj.Dir p=2
      ·simp only[d2,if_true]
       constructor
       ·intro hh
        rw[if_pos (ZR hh.2),Xm (by omega)]
       ·intro hh
        rw[if_neg (by rw[ZP (λq=>hh ⟨by omega,q⟩)];simp)]
      ·simp only[d2,if_false]
       exact ⟨λhh=>by have:=hh.1;omega,λ_=>trivial⟩)
    (λ_=>by
     simp only[JB,Int.lt_irrefl,if_false,List.take_length];rw[JG (show Len _ by show List.length _<=_;rw[Znw];omega) (λn=>!decide (n=1)) (λn _=>rfl),Bq];congr 3;refine (Zqr ?_).symm;rw[Bool.not_eq_true',List.any_eq_false];simp only[Bool.not_eq_true',Bool.not_eq_false,decide_eq_true_eq,decide_eq_false_iff_not,Classical.not_not];exact Iff.rfl)
   refine (show Zo (λv=>JB d v.1 v.2.1) ((0:Int),Zqs (Zf.Qw d).length ((Zf.Instances d).map Zc9),())=_ from (by simpa using this)).trans ?_;by_cases hP:Zfu (Zf.Qx d) (λ_ p=>Zmc d p)
   ·rw[XI hP];grind
   ·rw[Xe hP,ZP (λq=>hP q.1)])
 rw[Ze9] at this;refine Eq.trans ?_ this;rw[List.take_zero,List.map_nil,ZtW];rfl
theorem Zqo (a:ZE) (d:Zf) (ha:sm Xf a) (hd:sm YZ d):Zhj a d=some (tr (Zfu (Zf.Instances d) (λ_ x=>Zj8 a d x)/\Zfu (Zf.Qx d) (λ_ p=>Zmc d p))):=by
 obtain ⟨h1,h2,h3⟩:=ZlV hd;have s1:=ZH h1;have s2:=ZH h2;have s3:=ZH h3;have sa:=ZH (ZCM ha);have e1:Wq (((Zf.Qw d).length:Int)-1)=((Zf.Qw d).length:Int)-1:=YT (by omega) (by omega);have e2:Wq (((ZE.Cells a).length:Int)-1)=((ZE.Cells a).length:Int)-1:=YT (by omega) (by omega);unfold Zhj;rw[Vt (Y0 h1) (λ_ x=>Zj8 a d x) (bad:=false) (good:=tr (Zfu (Zf.Qx d) (λ_ p=>Zmc d p)))
  (λk x hx hk _=>by
   have hsx:=ZiF h1 hx;simp only[Zeg,show (k:Int)<((Zf.Instances d).length:Int) from by omega,if_true,Zp,hx,Bq,Q9,e2];by_cases hc:0<=Zk.Cell x/\Zk.Cell x<=((ZE.Cells a).length:Int)-1
   ·obtain ⟨c,hc1,hc2⟩:=Zme hc.1 (show Zk.Cell x<((ZE.Cells a).length:Int) by omega)
    rw[if_pos (ZR hc),hc1,Bq];by_cases hp:((Zk.Qw x).length:Int)=((Zn.Xi c).length:Int)
    ·rw[if_pos hp,Vt (Y0 (ZtD hsx).2) (λ_ n=>Zu0 d n) (bad:=.inr false) (good:=.inl (Wq ((k:Int)+1),()))
      (λj n hn hj _=>by
       simp only[Zee,show (j:Int)<((Zk.Qw x).length:Int) from by omega,if_true,Zp,hn,Bq,Q9,e1];constructor
       ·intro hh;exact if_pos (ZR hh)
       ·intro hh;exact if_neg (λq=>hh ((Xx _).1 q)))
      (λ_=>by simp only[Zee,Int.lt_irrefl,if_false])]
     constructor
     ·intro hh;rw[XI (JK.2 hh.2.2)]
     ·intro hh;rw[Xe (λq=>hh ⟨hc,⟨c,hc2,by omega⟩,JK.1 q⟩)]
    ·rw[if_neg hp]
     refine ⟨λhh=>?_,λ_=>rfl⟩;obtain ⟨_,⟨c',q1,q2⟩,_⟩:=hh;grind
   ·rw[if_neg (by rw[ZP hc];simp)]
    exact ⟨λhh=>absurd hh.1 hc,λ_=>rfl⟩)
  (λ_=>by
   simp only[Zeg,Int.lt_irrefl,if_false];rw[Vt (Y0 h2) (λ_ p=>Zmc d p) (bad:=.inr false) (good:=.inr true)
    (λk p hx hk _=>by
     simp only[Zef,show (k:Int)<((Zf.Qx d).length:Int) from by omega,if_true,Zp,hx,Bq,Q9,e1];by_cases hc:1<=Yj.Dir p/\Yj.Dir p<=2
     ·rw[if_pos (ZR hc)]
      constructor
      ·intro hh;exact if_pos (ZR hh.2)
      ·intro hh;exact if_neg (λq=>hh ⟨hc,(Xx _).1 q⟩)
     ·rw[if_neg (by rw[ZP hc];simp)]
      exact ⟨λhh=>absurd hh.1 hc,λ_=>rfl⟩)
    (λ_=>by simp only[Zef,Int.lt_irrefl,if_false])]
   congr 1;by_cases hh:Zfu (Zf.Qx d) (λ_ p=>Zmc d p)
   ·rw[XI hh,ZR hh]
   ·rw[Xe hh,ZP hh])]
 rw[Ze9]
theorem Zx4 {α:Type} {l:List α} {f:α->List UInt8} (h:∀ x∈l,(f x).length<=4611686018427387904):∀ s∈l.map f,s.length<=4611686018427387904:=by
 grind
theorem Zqm (a:ZE) (d:Zf) (ha:sm Xf a) (hd:sm YZ d):Zhh a d=some (tr (ZbX a d)):=by
 obtain ⟨h1,h2,h3⟩:=ZlV hd;have s1:=ZH h1;have s2:=ZH h2;have s3:=ZH h3;unfold Zhh;refine ZgH (YR (Zpw a ha) (λhL=>Zhw (λa1=>Zhw (λa2=>Zhw (λa3=>YR (Zqo a d ha hd) (λhP=>?_))))))
  (P:=Zu1 a/\¬(14:Int)<((Zf.Instances d).length:Int)/\¬(30:Int)<((Zf.Qw d).length:Int)/\¬(8:Int)<((Zf.Qx d).length:Int)/\(Zfu (Zf.Instances d) (λ_ x=>Zj8 a d x)/\Zfu (Zf.Qx d) (λ_ p=>Zmc d p))/\(Ji (ZhF d) (ZhF d).length/\Ji (Ze6 d) (Ze6 d).length/\Ji (Zf.Qw d) (Zf.Qw d).length)/\Zno d) ?_
 ·have hi:(ZhF d).length=(Zf.Instances d).length:=by simp[ZhF]
  have hp:(Ze6 d).length=(Zf.Qx d).length:=by simp[Ze6]
  refine gather (l:=Zf.Instances d) s1 Zk.Name (λk x o hx hk ho=>?_) ?_
  ·simp only[Zeb,hk,if_true,Zp,hx,Bq]
  simp only[Zeb,Int.lt_irrefl,if_false];refine gather (l:=Zf.Qx d) s2 Yj.Name (λk x o hx hk ho=>?_) ?_
  ·simp only[Zea,hk,if_true,Zp,hx,Bq]
  simp only[Zea,Int.lt_irrefl,if_false];rw[show List.map Yj.Name (Zf.Qx d)=Ze6 d from rfl,show List.map Zk.Name (Zf.Instances d)=ZhF d from rfl];simp only[ZgP (ZhF d) (by omega) (Zx4 (λx hx=>ZhZ (ZtD (Zr4 h1 hx)).1)),ZgP (Ze6 d) (by omega) (Zx4 (λx hx=>ZhZ (ZGD (Zr4 h2 hx)))),ZgP (Zf.Qw d) (by omega) (λs hs=>ZhZ (Zr4 h3 hs)),Bq];by_cases n1:Ji (ZhF d) (ZhF d).length
  ·rw[if_pos (ZR n1)]
   by_cases n2:Ji (Ze6 d) (Ze6 d).length
   ·rw[if_pos (ZR n2)]
    by_cases n3:Ji (Zf.Qw d) (Zf.Qw d).length
    ·rw[if_pos (ZR n3),Zh (by omega),Zh (by omega),Zh (by omega),Zh (by omega)]
     have:=Zbo (l:=Zf.Instances d) (ρ:=(List (List UInt8))×Int×Unit ⊕ ((List (List UInt8))×Int×Unit ⊕ Bool)) (λk=>((k:Int),Zqs (Zf.Qw d).length (((Zf.Instances d).take k).map Zc9),())) (step:=λv=>Zbr d v.1 v.2.1) (good:=.inr (.inr (tr (Zno d))))
      (λk x hx hk=>by
       have hsx:=ZiF h1 hx;obtain ⟨e1,e2⟩:=(hP.1 k x hx).last hL (ZH (ZtD hsx).2);simp only[Zbr,show (k:Int)<((Zf.Instances d).length:Int) from by omega,if_true,Zp,hx,Bq];rw[e1,Bq,Zk1 e2.1 (by have:=e2.2;omega) (by grind) (F:=λo=>some (Sum.inl (Wq ((k:Int)+1),o,()))),YP hx,List.map_append,Xm (by omega)];rfl)
      (by
       simp only[Zbr,Int.lt_irrefl,if_false,List.take_length];have:=Zbo (l:=Zf.Qx d) (ρ:=Int×List Int×Unit ⊕ ((List (List UInt8))×Int×Unit ⊕ ((List (List UInt8))×Int×Unit ⊕ Bool))) (λk=>((k:Int),Zqs (Zf.Qw d).length ((Zf.Instances d).map Zc9++(((Zf.Qx d).take k).filter (λp=>decide (Yj.Dir p=1))).map Yj.Net),())) (step:=λv=>Zbq d v.1 v.2.1) (good:=.inr (.inr (.inr (tr (Zno d)))))
        (λk p hx hk=>by
         have hl:=ZzY (d:=d) k (Zf.Instances d).length;rw[List.take_length] at hl;have hpo:=hP.2 k p hx;simp only[Zbq,show (k:Int)<((Zf.Qx d).length:Int) from by omega,if_true,Zp,hx,Bq,Zxx hx];by_cases d1:Yj.Dir p=1
         ·simp only[d1,if_true]
          rw[Zk1 hpo.2.1 (by have:=hpo.2.2;omega) (by omega) (F:=λo=>some (Sum.inl (Wq ((k:Int)+1),o,()))),Xm (by omega)]
         ·simp only[d1,if_false]
          rw[Xm (by omega)])
        (by
         simp only[Zbq,Int.lt_irrefl,if_false,List.take_length];rw[Vt (l:=Zqs (Zf.Qw d).length ((Zf.Instances d).map Zc9++((Zf.Qx d).filter (λp=>decide (Yj.Dir p=1))).map Yj.Net)) (show List.length _<=_ by rw[Znw];omega) (λ_ x=>x=1) (bad:=.inr (.inr (.inr (.inr false)))) (good:=.inr (.inr (.inr (.inr true))))
          (λk x hx hk _=>by
           simp only[Zd9,show (k:Int)<((Zqs (Zf.Qw d).length ((Zf.Instances d).map Zc9++((Zf.Qx d).filter (λp=>decide (Yj.Dir p=1))).map Yj.Net)).length:Int) from by omega,if_true,Zp,hx,Bq];grind)
          (λ_=>by simp only[Zd9,Int.lt_irrefl,if_false])]
         congr 1;have e:Zfu (Zqs (Zf.Qw d).length ((Zf.Instances d).map Zc9++((Zf.Qx d).filter (λp=>decide (Yj.Dir p=1))).map Yj.Net)) (λ_ x=>x=1)<->Zno d:=by
          rw[JK];exact Iff.rfl
         by_cases hh:Zno d
         ·rw[XI (e.2 hh),ZR hh]
         ·rw[Xe (λq=>hh (e.1 q)),ZP hh])
       grind)
     rw[List.take_zero,List.map_nil,ZtW] at this;grind
    ·rw[if_neg (by rw[ZP n3];simp),ZP (λq=>n3 q.1.2.2)]
   ·rw[if_neg (by rw[ZP n2];simp),ZP (λq=>n2 q.1.2.1)]
  ·rw[if_neg (by rw[ZP n1];simp),ZP (λq=>n1 q.1.1)]
 ·unfold ZbX Znn
  rw[JK,JK];grind
def cat {α β:Type} (f:Nat->α->List β):Nat->List α->List β
 | _,[]=>[]
 | k,x::r=>f k x++cat f (k+1) r
theorem ZlN {α β:Type} (f:Nat->α->List β):∀ (l r:List α) (m:Nat),cat f m (l++r)=cat f m l++cat f (m+l.length) r
 | [],r,m=>by simp[cat]
 | x::l,r,m=>by
  simp only[List.cons_append,cat,List.length_cons,ZlN f l r,List.append_assoc];grind
theorem Zjs {α β:Type} {f:Nat->α->List β} {l:List α} {k:Nat} {x:α} (hx:l[k]?=some x):cat f 0 (l.take (k+1))=cat f 0 (l.take k)++f k x:=by
 have hk:=(List.getElem?_eq_some_iff.1 hx).1;rw[YP hx,ZlN];simp only[cat,Nat.zero_add,List.length_take,List.append_nil];grind
theorem Qj {α β:Type} {f:Nat->α->List β} {y:β}:∀ {l:List α} {m:Nat},y∈cat f m l<->∃ (k:Nat) (x:α),l[k]?=some x/\y∈f (m+k) x
 | [],m=>by simp[cat]
 | z::r,m=>by
  simp only[cat,List.mem_append,Qj (l:=r)];constructor
  ·rintro (h | ⟨k,x,h1,h2⟩)
   ·exact ⟨0,z,rfl,h⟩
   ·exact ⟨k+1,x,by simpa using h1,by grind⟩
  grind
theorem V4 {α β:Type} {f:Nat->α->List β} {c:Nat}:∀ {l:List α} {m:Nat},(∀ k,∀ x∈l,(f k x).length<=c)->(cat f m l).length<=c*l.length
 | [],m,_=>by simp[cat]
 | z::r,m,h=>by
  simp only[cat,List.length_append,List.length_cons];have h1:=h m z (by simp);have h2:=V4 (f:=f) (l:=r) (m:=m+1) (λk x hx=>h k x (by simp[hx]));grind
theorem XM {α β ρ:Type} {l:List α} (f:Nat->α->List β) (acc:List β) {step:List β×Int×Unit->Option ((List β×Int×Unit) ⊕ ρ)} {good:ρ}
  (hs:∀ (k:Nat) (x:α),l[k]?=some x->k<l.length->step (acc++cat f 0 (l.take k),(k:Int),())=some (.inl ((acc++cat f 0 (l.take k))++f k x,((k+1:Nat):Int),())))
  (hx:step (acc++cat f 0 l,(l.length:Int),())=some (.inr good)):Zo step (acc,(0:Int),())=some good:=by
 have:=Zbo (l:=l) (ρ:=ρ) (λk=>(acc++cat f 0 (l.take k),(k:Int),())) (step:=step) (good:=good) (λk x hx hk=>by
  rw[hs k x hx hk,Zjs hx,List.append_assoc]) (by grind)
 simpa[cat] using this
abbrev Pl:=Int×Int×Int×Bool×Unit
def Zaz (i:Nat) (x:Zk):List Pl:=cat (λj n=>[((i:Int),(j:Int),n,decide ((j:Int)=Wq (((Zk.Qw x).length:Int)-1)),())]) 0 (Zk.Qw x)
def Zjj (j:Nat) (p:Yj):List Pl:=[((-1:Int),(j:Int),Yj.Net p,decide (Yj.Dir p=1),())]
def ZC (d:Zf):List Pl:=cat Zaz 0 (Zf.Instances d)++cat Zjj 0 (Zf.Qx d)
theorem ZyL (i:Nat) (x:Zk):(Zaz i x).length<=(Zk.Qw x).length:=by
 have:=V4 (f:=λj n=>[((i:Int),(j:Int),n,decide ((j:Int)=Wq (((Zk.Qw x).length:Int)-1)),())]) (c:=1) (l:=Zk.Qw x) (m:=0) (λ_ _ _=>by simp);simpa[Zaz] using this
structure Few (d:Zf):Prop where
 insts:(Zf.Instances d).length<=14
 ports:(Zf.Qx d).length<=8
 nets:∀ x∈Zf.Instances d,(Zk.Qw x).length<=5
theorem ZbX.few {a:ZE} {d:Zf} (h:ZbX a d):Few d:=by
 refine ⟨h.2.1.1,h.2.1.2.2.1,λx hx=>?_⟩;obtain ⟨_,⟨c,hc,hn⟩,_⟩:=h.2.2.1 x hx;have:=(h.1.2.1 c (List.mem_of_getElem? hc)).2.1.2.1;omega
theorem Zep {d:Zf} (h:Few d) (k:Nat):(cat Zaz 0 ((Zf.Instances d).take k)).length<=70:=by
 have:=V4 (f:=Zaz) (c:=5) (l:=(Zf.Instances d).take k) (m:=0) (λi x hx=>by
  have h1:=ZyL i x;have h2:=h.nets x (List.mem_of_mem_take hx);omega)
 have h1:=h.insts;grind
theorem Zk0 {d:Zf} (h:Few d) (k:Nat):(cat Zjj 0 ((Zf.Qx d).take k)).length<=8:=by
 have:=V4 (f:=Zjj) (c:=1) (l:=(Zf.Qx d).take k) (m:=0) (λi x hx=>by simp[Zjj]);have h1:=h.ports;grind
theorem XE {d:Zf} (h:Few d):(ZC d).length<=78:=by
 have h1:=Zep h (Zf.Instances d).length;have h2:=Zk0 h (Zf.Qx d).length;rw[List.take_length] at h1 h2;unfold ZC;grind
theorem X6 (d:Zf) (h:Few d):QY d=some (ZC d):=by
 have h1:=h.insts;have h2:=h.ports;unfold QY;refine XM (l:=Zf.Instances d) Zaz [] (λk x hx hk=>?_) ?_
 ·have hn:=h.nets x (List.mem_of_getElem? hx)
  have hl:=Zep h k;simp only[List.nil_append,ZaQ,show (k:Int)<((Zf.Instances d).length:Int) from by omega,if_true,Zp,hx,Bq];refine XM (l:=Zk.Qw x) (λj n=>[((k:Int),(j:Int),n,decide ((j:Int)=Wq (((Zk.Qw x).length:Int)-1)),())]) _ (λj n hj hk'=>?_) ?_
  ·have hl2:=V4 (f:=λj n=>[((k:Int),(j:Int),n,decide ((j:Int)=Wq (((Zk.Qw x).length:Int)-1)),())]) (c:=1) (l:=(Zk.Qw x).take j) (m:=0) (λ_ _ _=>by simp)
   rw[List.length_take] at hl2;simp only[ZaO,show (j:Int)<((Zk.Qw x).length:Int) from by omega,if_true,Zp,hj,Bq];rw[Zh (by grind),Xm (by omega)]
  ·simp only[ZaO,Int.lt_irrefl,if_false]
   rw[Xm (by omega)];rfl
 ·have hl:=Zep h (Zf.Instances d).length
  rw[List.take_length] at hl;simp only[List.nil_append,ZaQ,Int.lt_irrefl,if_false];refine XM (l:=Zf.Qx d) Zjj _ (λj p hj hk'=>?_) ?_
  ·have hl2:=Zk0 h j
   simp only[ZaP,show (j:Int)<((Zf.Qx d).length:Int) from by omega,if_true,Zp,hj,Bq];rw[Zh (by grind),Xm (by omega)];rfl
  ·simp only[ZaP,Int.lt_irrefl,if_false];rfl
theorem Xv (d:Zf) (h:Few d):XQ d=some (ZC d):=by
 have h1:=h.insts;have h2:=h.ports;unfold XQ;refine XM (l:=Zf.Instances d) Zaz [] (λk x hx hk=>?_) ?_
 ·have hn:=h.nets x (List.mem_of_getElem? hx)
  have hl:=Zep h k;simp only[List.nil_append,Zdl,show (k:Int)<((Zf.Instances d).length:Int) from by omega,if_true,Zp,hx,Bq];refine XM (l:=Zk.Qw x) (λj n=>[((k:Int),(j:Int),n,decide ((j:Int)=Wq (((Zk.Qw x).length:Int)-1)),())]) _ (λj n hj hk'=>?_) ?_
  ·have hl2:=V4 (f:=λj n=>[((k:Int),(j:Int),n,decide ((j:Int)=Wq (((Zk.Qw x).length:Int)-1)),())]) (c:=1) (l:=(Zk.Qw x).take j) (m:=0) (λ_ _ _=>by simp)
   rw[List.length_take] at hl2;simp only[Zdj,show (j:Int)<((Zk.Qw x).length:Int) from by omega,if_true,Zp,hj,Bq];rw[Zh (by grind),Xm (by omega)]
  ·simp only[Zdj,Int.lt_irrefl,if_false]
   rw[Xm (by omega)];rfl
 ·have hl:=Zep h (Zf.Instances d).length
  rw[List.take_length] at hl;simp only[List.nil_append,Zdl,Int.lt_irrefl,if_false];refine XM (l:=Zf.Qx d) Zjj _ (λj p hj hk'=>?_) ?_
  ·have hl2:=Zk0 h j
   simp only[Zdk,show (j:Int)<((Zf.Qx d).length:Int) from by omega,if_true,Zp,hj,Bq];rw[Zh (by grind),Xm (by omega)];rfl
  ·simp only[Zdk,Int.lt_irrefl,if_false];rfl
def ZiV (net:Int) (i:Nat) (x:Pl):List Int:=if x.2.2.1=net then (if x.2.2.2.1=true then [] else [(i:Int)]) else []
def ZaY (d:Zf) (net:Int):List Int:=cat (ZiV net) 0 (ZC d)
theorem Zgw (net:Int) (l:List Pl) (m:Nat):(cat (ZiV net) m l).length<=l.length:=by
 have:=V4 (f:=ZiV net) (c:=1) (l:=l) (m:=m) (λi x _=>by
  unfold ZiV;grind)
 omega
theorem Zc7 (d:Zf) (net:Int) (h:Few d):ZcQ d net=some (ZaY d net):=by
 have hp:=XE h;unfold ZcQ;rw[X6 d h,Bq];refine XM (l:=ZC d) (ZiV net) [] (λk x hx hk=>?_) ?_
 ·have hl:=Zgw net ((ZC d).take k) 0
  rw[List.length_take] at hl;simp only[List.nil_append,Zbg,show (k:Int)<((ZC d).length:Int) from by omega,if_true,Zp,hx,Bq,ZiV,Xm (show k<=1048576 by omega)];split
  ·split
   ·rw[List.append_nil]
   ·rw[Zh (by
     grind)]
  grind
 ·simp only[List.nil_append,Zbg,Int.lt_irrefl,if_false];rfl
theorem ZgQ (d:Zf) (net:Int) (h:Few d):Zc3 d net=some (ZaY d net):=by
 have hp:=XE h;unfold Zc3;rw[Xv d h,Bq];refine XM (l:=ZC d) (ZiV net) [] (λk x hx hk=>?_) ?_
 ·have hl:=Zgw net ((ZC d).take k) 0
  rw[List.length_take] at hl;simp only[List.nil_append,Zeh,show (k:Int)<((ZC d).length:Int) from by omega,if_true,Zp,hx,Bq,ZiV,Xm (show k<=1048576 by omega)];split
  ·split
   ·rw[List.append_nil]
   ·rw[Zh (by
     grind)]
  grind
 ·simp only[List.nil_append,Zeh,Int.lt_irrefl,if_false];rfl
def loads (d:Zf):List Int:=((ZC d).filter (λx=>!x.2.2.2.1)).map (λx=>x.2.2.1)
theorem Zr2 (net:Int):∀ (l:List Pl) (m:Nat),(cat (ZiV net) m l).length=((l.filter (λx=>!x.2.2.2.1)).map (λx=>x.2.2.1)).countP (λy=>decide (y=net))
 | [],m=>by simp[cat]
 | x::r,m=>by
  simp only[cat,List.length_append,Zr2 net r,ZiV];grind
theorem ZvZ {w:ZB} (h:sm ZaB w):sm (.sl (.int .i64)) (ZB.Parent w)/\sm (.sl (.int .i64)) (ZB.Res w)/\sm (.sl (.int .i64)) (ZB.Cap w)/\sm (.sl (.int .i64)) (ZB.ZgD w):=by
 refine ⟨?_,?_,?_,?_⟩;all_goals first | exact h.1 | exact h.2.1 | exact h.2.2.1 | exact h.2.2.2.1
theorem Zne {b:Zd} (h:sm YA b):sm Xf (Zd.Library b)/\sm YZ (Zd.Design b)/\sm (.sl ZaB) (Zd.Xo b):=by
 refine ⟨?_,?_,?_⟩;all_goals first | exact h.1 | exact h.2.1 | exact h.2.2.1 | exact h.2.2.2.1
def ZqJ (w:ZB) (k:Nat) (x:Int):Prop:=(k=0->x=-1/\(ZB.Res w)[0]?=some 0)/\(0<k->0<=x/\x<=(k:Int)-1)
def Zi2 (w:ZB) (s:Int):Prop :=
 (1<=(ZB.Parent w).length/\(ZB.Parent w).length<=8)/\(ZB.Res w).length=(ZB.Parent w).length/\(ZB.Cap w).length=(ZB.Parent w).length/\((ZB.ZgD w).length:Int)=s/\
 Zfu (ZB.Parent w) (ZqJ w)/\ZiZ (ZB.Res w) 0 1000/\ZiZ (ZB.Cap w) 0 500/\ZiZ (ZB.ZgD w) 0 (((ZB.Parent w).length:Int)-1)
theorem Zgh (l:List Int) (lo hi:Int) (hl:l.length<=1048576):XO l lo hi=some (tr (ZiZ l lo hi)):=by
 rw[ZcT l lo hi (by omega)];exact Zcd (Znp _ _ _)
theorem ZmM (w:ZB) (hw:sm ZaB w) (h1:1<=(ZB.Parent w).length) (h2:(ZB.Res w).length=(ZB.Parent w).length):ZdG w=some (tr (Zfu (ZB.Parent w) (ZqJ w))):=by
 obtain ⟨a1,a2,a3,a4⟩:=ZvZ hw;have s1:=ZH a1;unfold ZdG;have hr:(ZB.Res w)[0]?=some (ZB.Res w)[0]:=List.getElem?_eq_getElem (by omega);rw[Vt (Y0 a1) (ZqJ w) (bad:=false) (good:=true)
  (λk x hx hk _=>by
   simp only[ZbQ,show (k:Int)<((ZB.Parent w).length:Int) from by omega,if_true,Zp,hx,Bq];unfold ZqJ;by_cases hk0:k=0
   ·subst hk0
    rw[if_pos (by rfl),show atI (ZB.Res w) 0=some (ZB.Res w)[0] from hr,hr];grind
   ·rw[if_neg (by omega),if_pos (by omega),QE,Bq,YT (by omega) (by omega)]
    constructor
    ·intro hh;rw[if_pos (ZR (hh.2 (by omega)))]
    ·intro hh;rw[if_neg (λq=>hh ⟨λh=>absurd h hk0,λ_=>(Xx _).1 q⟩)])
  (λ_=>by simp only[ZbQ,Int.lt_irrefl,if_false]),ZlC]
theorem Zsx (w:ZB) (s:Int) (hw:sm ZaB w):ZjA w s=some (tr (Zi2 w s)):=by
 obtain ⟨a1,a2,a3,a4⟩:=ZvZ hw;have s1:=ZH a1;have s2:=ZH a2;have s3:=ZH a3;have s4:=ZH a4;unfold ZjA;simp only[ZaH,Bq,YT (show (-9223372036854775808:Int)<=((ZB.Parent w).length:Int)-1 by omega) (by omega)];refine ZgH (YR (QE _ _ _) (λq1=>QB (λq2=>QB (λq3=>YR (ZmM w hw (by omega) (by omega)) (λq4=>YR (Zgh _ _ _ s2) (λq5=>YR (Zgh _ _ _ s3) (λq6=>QB (λq7=>ZdT (Zgh _ _ _ s4))))))))) ?_;unfold Zi2;grind
theorem Zxe {l:List Int} {lo hi:Int}:ZiZ l lo hi<->∀ (k:Nat) (x:Int),l[k]?=some x->lo<=x/\x<=hi:=by
 unfold ZiZ;constructor
 ·intro h k x hx;exact h x (List.mem_of_getElem? hx)
 ·intro h x hx
  obtain ⟨k,hk⟩:=List.mem_iff_getElem?.1 hx;exact h k x hk
theorem ZsX (w:ZB) (s:Int) (hw:sm ZaB w):ZjX w s=some (tr (Zi2 w s)):=by
 obtain ⟨a1,a2,a3,a4⟩:=ZvZ hw;have s1:=ZH a1;have s2:=ZH a2;have s3:=ZH a3;have s4:=ZH a4;have e1:Wq (((ZB.Parent w).length:Int)-1)=((ZB.Parent w).length:Int)-1:=YT (by omega) (by omega);unfold ZjX;refine ZgH (Zhw (λq1=>Zhw (λq2=>QB (λq3=>QB (λq4=>QB (λq5=>?_)))))) ?_
  (P:=¬((ZB.Parent w).length:Int)<1/\¬(8:Int)<((ZB.Parent w).length:Int)/\((ZB.Res w).length:Int)=((ZB.Parent w).length:Int)/\((ZB.Cap w).length:Int)=((ZB.Parent w).length:Int)/\((ZB.ZgD w).length:Int)=s/\
   (Zfu (ZB.Parent w) (λk x=>(∀ c,(ZB.Cap w)[k]?=some c->0<=c/\c<=500)/\(∀ r,(ZB.Res w)[k]?=some r->0<=r/\r<=1000)/\ZqJ w k x)/\ZiZ (ZB.ZgD w) 0 (((ZB.Parent w).length:Int)-1)))
 ·rw[Vt (Y0 a1) (λk x=>(∀ c,(ZB.Cap w)[k]?=some c->0<=c/\c<=500)/\(∀ r,(ZB.Res w)[k]?=some r->0<=r/\r<=1000)/\ZqJ w k x) (bad:=false) (good:=tr (ZiZ (ZB.ZgD w) 0 (((ZB.Parent w).length:Int)-1)))
   (λk x hx hk _=>by
    have hc:(ZB.Cap w)[k]?=some (ZB.Cap w)[k]:=List.getElem?_eq_getElem (by omega);have hr:(ZB.Res w)[k]?=some (ZB.Res w)[k]:=List.getElem?_eq_getElem (by omega);simp only[ZfK,show (k:Int)<((ZB.Parent w).length:Int) from by omega,if_true,Zp,hc,hr,hx,Bq,Q9,Option.some.injEq,forall_eq'];generalize (ZB.Cap w)[k]=c at hc;generalize (ZB.Res w)[k]=r at hr;by_cases qc:0<=c/\c<=500
    ·rw[if_pos (ZR qc)]
     by_cases qr:0<=r/\r<=1000
     ·rw[if_pos (ZR qr)]
      unfold ZqJ;by_cases hk0:k=0
      ·simp_all
      ·rw[if_neg (by omega),if_pos (by omega),YT (show (-9223372036854775808:Int)<=(k:Int)-1 by omega) (by omega)]
       constructor
       ·intro hh;rw[if_pos (ZR (hh.2.2.2 (by omega)))]
       ·intro hh;rw[if_neg (λq=>hh ⟨qc,qr,λh=>absurd h hk0,λ_=>(Xx _).1 q⟩)]
     ·rw[if_neg (λq=>qr ((Xx _).1 q))]
      grind
    ·rw[if_neg (λq=>qc ((Xx _).1 q))]
     grind)
   (λ_=>by
    simp only[ZfK,Int.lt_irrefl,if_false];rw[Vt (Y0 a4) (λ_ x=>0<=x/\x<=((ZB.Parent w).length:Int)-1) (bad:=.inr false) (good:=.inr true)
     (λk x hx hk _=>by
      simp only[ZfJ,show (k:Int)<((ZB.ZgD w).length:Int) from by omega,if_true,Zp,hx,Bq,Q9,e1];constructor
      ·intro hh;rw[if_pos (ZR hh)]
      ·intro hh;rw[if_neg (λq=>hh ((Xx _).1 q))])
     (λ_=>by simp only[ZfJ,Int.lt_irrefl,if_false])]
    congr 1;have e:Zfu (ZB.ZgD w) (λ_ x=>0<=x/\x<=((ZB.Parent w).length:Int)-1)<->ZiZ (ZB.ZgD w) 0 (((ZB.Parent w).length:Int)-1):=JK;by_cases hh:ZiZ (ZB.ZgD w) 0 (((ZB.Parent w).length:Int)-1)
    ·rw[XI (e.2 hh),ZR hh]
    ·rw[Xe (λq=>hh (e.1 q)),ZP hh]),Ze9]
 ·unfold Zi2
  rw[Zxe (l:=ZB.Res w),Zxe (l:=ZB.Cap w)];constructor
  ·rintro ⟨q1,q2,q3,q4,q5,q6,q7⟩
   refine ⟨⟨by omega,by omega⟩,by omega,by omega,q5,λk x hx=>(q6 k x hx).2.2,λk r hr=>?_,λk c hc=>?_,q7⟩
   ·have hk:=(List.getElem?_eq_some_iff.1 hr).1
    exact (q6 k _ (List.getElem?_eq_getElem (by omega))).2.1 r hr
   ·have hk:=(List.getElem?_eq_some_iff.1 hc).1
    exact (q6 k _ (List.getElem?_eq_getElem (by omega))).1 c hc
  ·rintro ⟨q1,q2,q3,q5,q6,q7,q8,q9⟩
   exact ⟨by omega,by omega,by omega,by omega,q5,λk x hx=>⟨λc hc=>q8 k c hc,λr hr=>q7 k r hr,q6 k x hx⟩,q9⟩
def Zmy (b:Zd):Prop :=
 ZbX (Zd.Library b) (Zd.Design b)/\(Zd.Xo b).length=(Zf.Qw (Zd.Design b)).length/\Zfu (Zd.Xo b) (λk w=>Zi2 w ((ZaY (Zd.Design b) (k:Int)).length:Int))
theorem ZrU {a:ZE} {d:Zf} (h:ZbX a d) {x:Pl} (hx:x∈ZC d):Zu0 d x.2.2.1:=by
 unfold ZC at hx;rcases List.mem_append.1 hx with hx | hx
 ·obtain ⟨i,z,hi,hz⟩:=Qj.1 hx
  unfold Zaz at hz;obtain ⟨j,n,hj,hn⟩:=Qj.1 hz;simp only[List.mem_singleton] at hn;subst hn;exact (h.2.2.1 z (List.mem_of_getElem? hi)).2.2 n (List.mem_of_getElem? hj)
 ·obtain ⟨j,p,hj,hp⟩:=Qj.1 hx
  simp only[Zjj,List.mem_singleton] at hp;subst hp;exact (h.2.2.2.1 p (List.mem_of_getElem? hj)).2
theorem Zfa (b:Zd) (hb:sm YA b):ZcA b=some (tr (Zmy b)):=by
 obtain ⟨a1,a2,a3⟩:=Zne hb;have s3:=ZH a3;unfold ZcA;refine ZgH (YR (Zqm _ _ a1 a2) (λhD=>QB (λq1=>?_))) ?_
  (P:=ZbX (Zd.Library b) (Zd.Design b)/\((Zd.Xo b).length:Int)=((Zf.Qw (Zd.Design b)).length:Int)/\Zfu (Zd.Xo b) (λk w=>Zi2 w ((ZaY (Zd.Design b) (k:Int)).length:Int)))
 ·rw[Vt (Y0 a3) (λk w=>Zi2 w ((ZaY (Zd.Design b) (k:Int)).length:Int)) (bad:=false) (good:=true)
   (λk w hx hk _=>by
    simp only[Zfb,show (k:Int)<((Zd.Xo b).length:Int) from by omega,if_true,Zp,hx,Bq,ZgQ _ _ hD.few,ZsX w _ (ZiF a3 hx)];constructor
    ·intro hh;rw[if_pos (ZR hh)]
    ·intro hh;rw[if_neg (λq=>hh ((Xx _).1 q))])
   (λ_=>by simp only[Zfb,Int.lt_irrefl,if_false]),ZlC]
 ·unfold Zmy
  grind
theorem ZyR {l:List Pl} {k:Nat} {x:Pl} (hx:l[k]?=some x) :
  (((l.take (k+1)).filter (λx=>!x.2.2.2.1)).map (λx=>x.2.2.1))=if x.2.2.2.1=true then (((l.take k).filter (λx=>!x.2.2.2.1)).map (λx=>x.2.2.1)) else (((l.take k).filter (λx=>!x.2.2.2.1)).map (λx=>x.2.2.1))++[x.2.2.1]:=by
 rw[YP hx,List.filter_append,List.map_append];grind
theorem ZhD (b:Zd) (hb:sm YA b):Zgk b=some (tr (Zmy b)):=by
 obtain ⟨a1,a2,a3⟩:=Zne hb;have s3:=ZH a3;unfold Zgk;refine ZgH (YR (ZpV _ _ a1 a2) (λhD=>QB (λq1=>?_))) ?_
  (P:=ZbX (Zd.Library b) (Zd.Design b)/\((Zd.Xo b).length:Int)=((Zf.Qw (Zd.Design b)).length:Int)/\Zfu (Zd.Xo b) (λk w=>Zi2 w ((ZaY (Zd.Design b) (k:Int)).length:Int)))
 ·rw[Zh (by omega),Zh (by omega),Zh (by omega),Zh (by omega),X6 _ hD.few,Bq]
  have hpl:=XE hD.few;have:=Zbo (l:=ZC (Zd.Design b)) (ρ:=Bool) (λk=>((k:Int),Zqs (Zd.Xo b).length ((((ZC (Zd.Design b)).take k).filter (λx=>!x.2.2.2.1)).map (λx=>x.2.2.1)),())) (step:=λv=>ZbZ b (ZC (Zd.Design b)) v.1 v.2.1) (good:=tr (Zfu (Zd.Xo b) (λk w=>Zi2 w ((ZaY (Zd.Design b) (k:Int)).length:Int))))
   (λk x hx hk=>by
    have hn:=ZrU hD (List.mem_of_getElem? hx);have hl1:=List.length_filter_le (λx:Pl=>!x.2.2.2.1) ((ZC (Zd.Design b)).take k);rw[List.length_take] at hl1;simp only[ZbZ,show (k:Int)<((ZC (Zd.Design b)).length:Int) from by omega,if_true,Zp,hx,Bq,ZyR hx];by_cases hd:x.2.2.2.1=true
    ·rw[if_pos hd,if_pos hd,Xm (by omega)]
    ·rw[if_neg hd,if_neg hd,Zk1 hn.1 (by have:=hn.2;grind) (by grind) (F:=λo=>some (Sum.inl (Wq ((k:Int)+1),o,()))),Xm (by omega)])
   (by
    simp only[ZbZ,Int.lt_irrefl,if_false,List.take_length];rw[Vt (Y0 a3) (λk w=>Zi2 w ((ZaY (Zd.Design b) (k:Int)).length:Int)) (bad:=.inr false) (good:=.inr true)
     (λk w hx hk _=>by
      have hc:(ZaY (Zd.Design b) (k:Int)).length=_:=Zr2 (k:Int) (ZC (Zd.Design b)) 0;simp only[ZeP,show (k:Int)<((Zd.Xo b).length:Int) from by omega,if_true,Zp,hx,Bq];rw[Znv hk,Bq,Zsx w _ (ZiF a3 hx),Bq,hc];constructor
      ·intro hh;rw[if_pos (ZR hh)]
      ·intro hh;rw[if_neg (λq=>hh ((Xx _).1 q))])
     (λ_=>by simp only[ZeP,Int.lt_irrefl,if_false])]
    congr 1;by_cases hh:Zfu (Zd.Xo b) (λk w=>Zi2 w ((ZaY (Zd.Design b) (k:Int)).length:Int))
    ·rw[XI hh,ZR hh]
    ·rw[Xe hh,ZP hh])
  rw[List.take_zero,List.filter_nil,List.map_nil,ZtW] at this;exact this
 ·unfold Zmy
  grind
structure Xy (b:Zd):Prop where
 ok:Zmy b
 sm:sm YA b
theorem Zd4 {α τ ρ:Type} {l:List α} (I:Nat->τ->Prop) (Q:ρ->Prop) {step:τ->Option (τ ⊕ ρ)} {v:τ} (h0:I 0 v)
  (hs:∀ (k:Nat) (x:α) (v:τ),l[k]?=some x->k<l.length->I k v->∃ v',step v=some (.inl v')/\I (k+1) v')
  (hx:∀ v,I l.length v->∃ r,step v=some (.inr r)/\Q r):∃ r,Zo step v=some r/\Q r :=
 Zar l.length I Q h0 (λk v hk hI=>.inl (hs k l[k] v (List.getElem?_eq_getElem hk) hk hI)) hx
theorem Zgi {α:Type} {l:List α} {i:Int} (h0:0<=i) (h1:i<(l.length:Int)):∃ x,atI l i=some x/\x∈l:=by
 obtain ⟨x,h2,h3⟩:=Zme h0 h1;grind
theorem ZAL {a:ZE} {d:Zf} (h:ZbX a d) {x:Pl} (hx:x∈ZC d):∃ n,Js d a x=some n:=by
 unfold Js;split
 ·exact ⟨_,rfl⟩
 ·rename_i hneg
  unfold ZC at hx;rcases List.mem_append.1 hx with hx | hx
  ·obtain ⟨i,z,hi,hz⟩:=Qj.1 hx
   unfold Zaz at hz;obtain ⟨j,n,hj,hn⟩:=Qj.1 hz;simp only[List.mem_singleton] at hn;subst hn;rw[Nat.zero_add] at hneg;obtain ⟨hc,⟨c,hc1,hc2⟩,_⟩:=h.2.2.1 z (List.mem_of_getElem? hi);have hj2:=(List.getElem?_eq_some_iff.1 hj).1;simp only[Xb.instance,Xb.pin,Nat.zero_add,Zp,hi,Bq];rw[QF hc.1 hc1,Bq];grind
  ·obtain ⟨j,p,hj,hp⟩:=Qj.1 hx
   simp only[Zjj,List.mem_singleton] at hp;grind
theorem Zls {d:Zf} {net y:Int} (h:y∈ZaY d net):0<=y/\y<((ZC d).length:Int):=by
 obtain ⟨k,x,hk,hy⟩:=Qj.1 h;have:=(List.getElem?_eq_some_iff.1 hk).1;unfold ZiV at hy;grind
theorem Zi2.par {w:ZB} {s:Int} (h:Zi2 w s) {k:Nat} {x:Int} (hx:(ZB.Parent w)[k]?=some x) (hk:0<k):0<=x/\x<=(k:Int)-1:=(h.2.2.2.2.1 k x hx).2 hk
theorem ZjO {b:Zd} (h:Xy b) {k:Nat} {w:ZB} (hw:(Zd.Xo b)[k]?=some w):∃ r,YH b (k:Int)=some r/\r.length=(ZB.Parent w).length:=by
 have hW:=h.ok.2.2 k w hw;have hD:=h.ok.1;have hf:=hD.few;obtain ⟨⟨l1,l8⟩,lr,lc,ls,ht,ar,ac,asn⟩:=hW;have hpl:=XE hf;have hsl:=Zgw (k:Int) (ZC (Zd.Design b)) 0;have hsl2:(ZaY (Zd.Design b) (k:Int)).length<=78:=by unfold ZaY;omega
 unfold YH;rw[Zp,hw,Bq];unfold Xk;rw[Zh (by simp;omega),Bq,X6 _ hf,Bq,Zc7 _ _ hf,Bq];refine Zd4 (l:=ZaY (Zd.Design b) (k:Int)) (λm v=>v.1=(m:Int)/\v.2.1.length=(ZB.Parent w).length) _ ⟨rfl,by simp;omega⟩ ?_ ?_
 ·rintro m y ⟨i,l,⟨⟩⟩ hy hm ⟨hi,hl⟩
  simp only at hi hl;subst hi;have hz:(ZB.ZgD w)[m]?=some (ZB.ZgD w)[m]:=List.getElem?_eq_getElem (by omega);generalize (ZB.ZgD w)[m]=z at hz;have hz2:=asn z (List.mem_of_getElem? hz);obtain ⟨q,hq1,_⟩:=Zgi (l:=l) hz2.1 (by omega);obtain ⟨hy1,hy2⟩:=Zls (List.mem_of_getElem? hy);obtain ⟨p,hp1,hp2⟩:=Zgi hy1 hy2;obtain ⟨c,hc⟩:=ZAL hD hp2;simp only[XC,show (m:Int)<((ZaY (Zd.Design b) (k:Int)).length:Int) from by omega,if_true,Zp,hy,hz,Bq,hq1,hp1,hc];exact ⟨_,rfl,by rw[Xm (by omega)],by simp[hl]⟩
 ·rintro ⟨i,l,⟨⟩⟩ ⟨hi,hl⟩
  simp only at hi hl;subst hi;simp only[XC,Int.lt_irrefl,if_false];have:=ZeD (σ:=Int×List Int×Unit) (ρ:=(Int×List Int×Unit) ⊕ List Int) (step:=λv=>Qp w v.1 v.2.1) (λv=>(∃ j:Nat,v.1=(j:Int)/\j<(ZB.Parent w).length)/\v.2.1.length=(ZB.Parent w).length) (λv=>v.1.toNat) (λr=>∃ r',r=.inr r'/\r'.length=(ZB.Parent w).length) (v:=(Wq ((l.length:Int)-1),l,()))
   ⟨⟨l.length-1,by show Wq _=_;rw[Zi1 (by omega) (by omega)],by omega⟩,hl⟩
   (by
    rintro ⟨i,l,⟨⟩⟩ ⟨⟨j,hj,hj2⟩,hl⟩;simp only at hj hl;subst hj;simp only[Qp];by_cases h0:(0:Int)<(j:Int)
    ·rw[if_pos h0]
     have hp:(ZB.Parent w)[j]?=some (ZB.Parent w)[j]:=List.getElem?_eq_getElem (by omega);generalize (ZB.Parent w)[j]=p at hp;have hp2:=(ht j p hp).2 (by omega);obtain ⟨q,hq1,_⟩:=Zgi (l:=l) hp2.1 (by omega);have hl2:l[j]?=some l[j]:=List.getElem?_eq_getElem (by omega);simp only[Zp,hp,Bq,hq1,hl2];left;refine ⟨_,rfl,⟨⟨j-1,by rw[Zi1 (by omega) (by omega)],by omega⟩,by simp[hl]⟩,?_⟩;show (Wq ((j:Int)-1)).toNat<((j:Int)).toNat;rw[Zi1 (by omega) (by omega)];omega
    grind)
  grind
theorem ZyQ {b:Zd} (h:Xy b) {v:Nat} {w:ZB} (hw:(Zd.Xo b)[v]?=some w):Zc4 b (v:Int)=YH b (v:Int):=by
 have hf:=h.ok.1.few;unfold Zc4 YH;rw[Zp,hw,Bq,Bq,show ZlE (ZB.Cap w)=Xk (ZB.Cap w) from rfl,Xv _ hf,X6 _ hf,ZgQ _ _ hf,Zc7 _ _ hf];refine congrArg (Option.bind _) ?_;funext l;rw[Bq,Bq,Bq,Bq];refine congrArg (λf=>Zo f _) ?_;funext u;obtain ⟨i,l,⟨⟩⟩:=u;simp only[ZhT,XC];split
 ·cases atI (ZaY (Zd.Design b) (v:Int)) i with
  | none =>
   cases atI (ZB.ZgD w) i with
   | none=>rfl
   | some z =>
    simp only[Bq,Option.bind_none];cases atI l z<;>rfl
  | some y =>
   cases atI (ZB.ZgD w) i with
   | none=>rfl
   | some z =>
    simp only[Bq];cases atI l z with
    | none=>rfl
    | some q=>rfl
 ·rfl
def ZoO:List Int->Int
 | []=>0
 | x::r=>x+ZoO r
theorem Zrj:∀ l r:List Int,ZoO (l++r)=ZoO l+ZoO r
 | [],r=>by show ZoO r=0+ZoO r;omega
 | x::l,r=>by
  show x+ZoO (l++r)=x+ZoO l+ZoO r;rw[Zrj l r];omega
theorem Zuk:∀ {l:List Int} {i:Nat} {x:Int} (c:Int),l[i]?=some x->ZoO (l.set i (x+c))=ZoO l+c
 | [],i,x,c,h=>by simp at h
 | y::l,0,x,c,h=>by
  have:y=x:=by simpa using h
  subst this;show y+c+ZoO l=y+ZoO l+c;omega
 | y::l,i+1,x,c,h=>by
  show y+ZoO (l.set i (x+c))=y+ZoO l+c;rw[Zuk c (by simpa using h)];omega
theorem Zuj:∀ {l:List Int},(∀ x∈l,0<=x)->0<=ZoO l/\∀ x∈l,x<=ZoO l
 | [],_=>⟨Int.le_refl _,λx hx=>by cases hx⟩
 | y::l,h=>by
  obtain ⟨h1,h2⟩:=Zuj (l:=l) λx hx=>h x (List.mem_cons_of_mem _ hx);have hy:=h y List.mem_cons_self;refine ⟨by show 0<=y+ZoO l;omega,λx hx=>?_⟩;show x<=y+ZoO l;rcases List.mem_cons.1 hx with rfl | hx
  ·omega
  ·have:=h2 x hx;omega
theorem ZAk:∀ {l:List Int} {c:Int},(∀ x∈l,x<=c)->ZoO l<=(l.length:Int)*c
 | [],c,_=>by show (0:Int)<=((0:Nat):Int)*c;simp
 | y::l,c,h=>by
  have h1:=ZAk (l:=l) (c:=c) λx hx=>h x (List.mem_cons_of_mem _ hx);have h2:=h y List.mem_cons_self;show y+ZoO l<=((l.length+1:Nat):Int)*c;rw[show ((l.length+1:Nat):Int)=(l.length:Int)+1 by omega,Int.add_mul,Int.one_mul];omega
theorem Zph {l:List Int} {i:Nat} {x y:Int} (h:y∈l.set i x):y=x\/y∈l:=(List.mem_or_eq_of_mem_set h).symm
theorem ZvK {a:ZE} {d:Zf} (h:ZbX a d) {x:Pl} (hx:x∈ZC d):∃ n,Js d a x=some n/\0<=n/\n<=500:=by
 unfold Js;split
 ·exact ⟨_,rfl,by omega,by omega⟩
 ·rename_i hneg
  unfold ZC at hx;rcases List.mem_append.1 hx with hx | hx
  ·obtain ⟨i,z,hi,hz⟩:=Qj.1 hx
   unfold Zaz at hz;obtain ⟨j,n,hj,hn⟩:=Qj.1 hz;simp only[List.mem_singleton] at hn;subst hn;rw[Nat.zero_add] at hneg;obtain ⟨hc,⟨c,hc1,hc2⟩,_⟩:=h.2.2.1 z (List.mem_of_getElem? hi);have hj2:=(List.getElem?_eq_some_iff.1 hj).1;have hpins:=(h.1.2.1 c (List.mem_of_getElem? hc1)).2.1;simp only[Xb.instance,Xb.pin,Nat.zero_add,Zp,hi,Bq];rw[QF hc.1 hc1,Bq];have hp:(Zn.Xi c)[j]?=some (Zn.Xi c)[j]:=List.getElem?_eq_getElem (by omega);rw[hp,Bq];have hb:=(hpins.2.2.2 j _ hp).1;exact ⟨_,rfl,hb.1,hb.2⟩
  ·obtain ⟨j,p,hj,hp⟩:=Qj.1 hx
   simp only[Zjj,List.mem_singleton] at hp;subst hp;exact absurd (by show (-1:Int)<0;omega) hneg
theorem ZvE {b:Zd} (h:Xy b) {k:Nat} {w:ZB} (hw:(Zd.Xo b)[k]?=some w):∃ r,YH b (k:Int)=some r/\r.length=(ZB.Parent w).length/\∀ x∈r,0<=x/\x<=43000:=by
 have hW:=h.ok.2.2 k w hw;have hD:=h.ok.1;have hf:=hD.few;obtain ⟨⟨l1,l8⟩,lr,lc,ls,ht,ar,ac,asn⟩:=hW;have hpl:=XE hf;have hsl:=Zgw (k:Int) (ZC (Zd.Design b)) 0;have hsl2:(ZaY (Zd.Design b) (k:Int)).length<=78:=by unfold ZaY;omega
 have hc0:ZoO (ZB.Cap w)<=4000:=by
  have:=ZAk (l:=ZB.Cap w) (c:=500) λx hx=>(ac x hx).2;omega
 unfold YH;rw[Zp,hw,Bq];unfold Xk;rw[Zh (by simp;omega),Bq,X6 _ hf,Bq,Zc7 _ _ hf,Bq,List.nil_append];refine Zd4 (l:=ZaY (Zd.Design b) (k:Int)) (λm v=>v.1=(m:Int)/\v.2.1.length=(ZB.Parent w).length/\(∀ x∈v.2.1,0<=x)/\ZoO v.2.1<=4000+(m:Int)*500) _ ⟨rfl,by simp;omega,λx hx=>(ac x hx).1,by simp only;omega⟩ ?_ ?_
 ·rintro m y ⟨i,l,⟨⟩⟩ hy hm ⟨hi,hl,hnn,hsum⟩
  simp only at hi hl hnn hsum;subst hi;have hz:(ZB.ZgD w)[m]?=some (ZB.ZgD w)[m]:=List.getElem?_eq_getElem (by omega);generalize (ZB.ZgD w)[m]=z at hz;have hz2:=asn z (List.mem_of_getElem? hz);obtain ⟨q,hq1,hq2⟩:=Zgi (l:=l) hz2.1 (by omega);obtain ⟨hy1,hy2⟩:=Zls (List.mem_of_getElem? hy);obtain ⟨p,hp1,hp2⟩:=Zgi hy1 hy2;obtain ⟨c,hc,c0,c5⟩:=ZvK hD hp2;have hq0:=hnn q hq2;have hqs:=(Zuj hnn).2 q hq2;have hq3:l[z.toNat]?=some q:=by
   unfold atI at hq1;rw[if_pos hz2.1] at hq1;exact hq1
  simp only[XC,show (m:Int)<((ZaY (Zd.Design b) (k:Int)).length:Int) from by omega,if_true,Zp,hy,hz,Bq,hq1,hp1,hc];rw[YT (n:=q+c) (by omega) (by omega)];refine ⟨_,rfl,by rw[Xm (by omega)],by simp[hl],λx hx=>?_,?_⟩
  ·rcases Zph hx with rfl | hx
   ·omega
   ·exact hnn x hx
  ·simp only
   rw[Zuk c hq3];omega
 ·rintro ⟨i,l,⟨⟩⟩ ⟨hi,hl,hnn,hsum⟩
  simp only at hi hl hnn hsum;subst hi;simp only[XC,Int.lt_irrefl,if_false];have hT:ZoO l<=43000:=by omega
  have hall:∀ x∈l,0<=x/\x<=43000:=λx hx=>⟨hnn x hx,by have:=(Zuj hnn).2 x hx;omega⟩;have:=ZeD (σ:=Int×List Int×Unit) (ρ:=(Int×List Int×Unit) ⊕ List Int) (step:=λv=>Qp w v.1 v.2.1) (λv=>(∃ j:Nat,v.1=(j:Int)/\j<(ZB.Parent w).length/\ZoO (v.2.1.take (j+1))<=43000)/\v.2.1.length=(ZB.Parent w).length/\∀ x∈v.2.1,0<=x/\x<=43000) (λv=>v.1.toNat) (λr=>∃ r',r=.inr r'/\r'.length=(ZB.Parent w).length/\∀ x∈r',0<=x/\x<=43000) (v:=(Wq ((l.length:Int)-1),l,()))
   ⟨⟨l.length-1,by show Wq _=_;rw[Zi1 (by omega) (by omega)],by omega,by simp only;rw[List.take_of_length_le (by omega)];exact hT⟩,hl,hall⟩
   (by
    rintro ⟨i,l,⟨⟩⟩ ⟨⟨j,hj,hj2,hjs⟩,hl,hall⟩;simp only at hj hl hjs hall;subst hj;simp only[Qp];by_cases h0:(0:Int)<(j:Int)
    ·rw[if_pos h0]
     have hp:(ZB.Parent w)[j]?=some (ZB.Parent w)[j]:=List.getElem?_eq_getElem (by omega);generalize (ZB.Parent w)[j]=p at hp;have hp2:=(ht j p hp).2 (by omega);obtain ⟨q,hq1,hq2⟩:=Zgi (l:=l) hp2.1 (by omega);have hq3:l[p.toNat]?=some q:=by
      unfold atI at hq1;rw[if_pos hp2.1] at hq1;exact hq1
     have hl2:l[j]?=some l[j]:=List.getElem?_eq_getElem (by omega);generalize l[j]=y at hl2;have hy:=hall y (List.mem_of_getElem? hl2);have hq:=hall q hq2;simp only[Zp,hp,Bq,hq1,hl2];rw[YT (n:=q+y) (by omega) (by omega)];have hqt:(l.take j)[p.toNat]?=some q:=by rw[List.getElem?_take,if_pos (by omega)];exact hq3
     have hnew:ZoO ((l.set p.toNat (q+y)).take j)<=43000:=by
      rw[List.take_set,Zuk y hqt];rw[YP hl2,Zrj] at hjs;have:ZoO [y]=y:=by show y+0=y;omega
      omega
     have hnn2:∀ x∈(l.set p.toNat (q+y)).take j,0<=x:=λx hx=>by
      rcases Zph (List.mem_of_mem_take hx) with rfl | hx
      ·omega
      ·exact (hall x hx).1
     have hqy:q+y<=43000:=by
      have hmem:q+y∈(l.set p.toNat (q+y)).take j:=by
       refine List.mem_of_getElem? (i:=p.toNat) ?_;rw[List.getElem?_take,if_pos (by omega),List.getElem?_set_self (by omega)]
      have:=(Zuj hnn2).2 _ hmem;omega
     left;refine ⟨_,rfl,⟨⟨j-1,by rw[Zi1 (by omega) (by omega)],by omega,?_⟩,by simp[hl],λx hx=>?_⟩,?_⟩
     ·simp only
      rw[show j-1+1=j by omega];exact hnew
     ·rcases Zph hx with rfl | hx
      ·exact ⟨by omega,hqy⟩
      ·exact hall x hx
     ·show (Wq ((j:Int)-1)).toNat<((j:Int)).toNat
      rw[Zi1 (by omega) (by omega)];omega
    ·rw[if_neg h0]
     right;exact ⟨_,rfl,_,rfl,hl,hall⟩)
  obtain ⟨r,h1,r',rfl,h3⟩:=this;exact ⟨r',h1,h3⟩
theorem Zkj {a b A B:Int} (h1:0<=a) (h2:a<=A) (h3:0<=b) (h4:b<=B):0<=a*b/\a*b<=A*B :=
 ⟨Int.mul_nonneg h1 h3,Int.mul_le_mul h2 h4 h3 (by omega)⟩
theorem ZrM {y p M:Int} (h1:-M<=y) (h2:y<=M) (h3:0<=p):-(M*p)<=y*p/\y*p<=M*p:=by
 have a:=Int.mul_le_mul_of_nonneg_right h1 h3;have b:=Int.mul_le_mul_of_nonneg_right h2 h3;rw[Int.neg_mul] at a;exact ⟨a,b⟩
def dlF (w:ZB) (ld:List Int):Nat->List Int
 | 0=>[0]
 | m+1=>dlF w ld m++[((dlF w ld m)[(((ZB.Parent w)[m+1]?).getD 0).toNat]?).getD 0+(((ZB.Res w)[m+1]?).getD 0)*((ld[m+1]?).getD 0)]
theorem ZmI (w:ZB) (ld:List Int):∀ m,(dlF w ld m).length=m+1
 | 0=>rfl
 | m+1=>by show (dlF w ld m++[_]).length=_;rw[List.length_append,ZmI w ld m];rfl
theorem ZwE {l:List Int} {lo hi:Int} (h:∀ x∈l,lo<=x/\x<=hi) (h1:lo<=0) (h2:0<=hi) (i:Nat):lo<=(l[i]?).getD 0/\(l[i]?).getD 0<=hi:=by
 cases e:l[i]? with
 | none=>exact ⟨h1,h2⟩
 | some x=>exact h x (List.mem_of_getElem? e)
theorem ZzW {w:ZB} {ld:List Int} (hr:∀ x∈ZB.Res w,0<=x/\x<=1000) (hl:∀ x∈ld,0<=x/\x<=43000):∀ m,∀ x∈dlF w ld m,0<=x/\x<=(m:Int)*43000000
 | 0,x,hx=>by
  have:x=0:=by simpa[dlF] using hx
  subst this;omega
 | m+1,x,hx=>by
  have hm:=ZzW hr hl m;rcases List.mem_append.1 (show x∈dlF w ld m++[_] from hx) with hx | hx
  ·have:=hm x hx;omega
  ·rw[List.mem_singleton.1 hx]
   have a:=ZwE hm (by omega) (by omega) (((ZB.Parent w)[m+1]?).getD 0).toNat;have b:=ZwE hr (by omega) (by omega) (m+1);have c:=ZwE hl (by omega) (by omega) (m+1);have d:=Zkj b.1 b.2 c.1 c.2;omega
structure Zwj (b:Zd) (k:Nat) (w:ZB) (ld:List Int):Prop where
 wire:(Zd.Xo b)[k]?=some w
 n1:1<=(ZB.Parent w).length
 n8:(ZB.Parent w).length<=8
 nr:(ZB.Res w).length=(ZB.Parent w).length
 nl:ld.length=(ZB.Parent w).length
 par:∀ (m:Nat),m+1<(ZB.Parent w).length->∃ p,(ZB.Parent w)[m+1]?=some p/\0<=p/\p<=(m:Int)
 res:∀ x∈ZB.Res w,0<=x/\x<=1000
 lds:∀ x∈ld,0<=x/\x<=43000
 snk:∀ x∈ZB.ZgD w,0<=x/\x<=((ZB.Parent w).length:Int)-1
 few:(ZB.ZgD w).length<=1048576
 prog:YH b (k:Int)=some ld
 ref:Zc4 b (k:Int)=some ld
theorem ZKw {b:Zd} (h:Xy b) {k:Nat} {w:ZB} (hw:(Zd.Xo b)[k]?=some w):∃ ld,Zwj b k w ld:=by
 have hW:=h.ok.2.2 k w hw;obtain ⟨⟨l1,l8⟩,lr,lc,ls,ht,ar,ac,asn⟩:=hW;obtain ⟨nl,hnl,hnl2,hbd⟩:=ZvE h hw;have hsm:=ZH (ZvZ (ZiF (Zne h.sm).2.2 hw)).2.2.2;refine ⟨nl,hw,l1,l8,lr,hnl2,λm hm=>?_,ar,hbd,asn,by omega,hnl,by rw[ZyQ h hw,hnl]⟩;have hp:(ZB.Parent w)[m+1]?=some ((ZB.Parent w)[m+1]'hm):=List.getElem?_eq_getElem _;have:=(ht (m+1) _ hp).2 (by omega);exact ⟨_,hp,this.1,by omega⟩
def ndl (w:ZB) (ld:List Int):List Int:=dlF w ld ((ZB.Parent w).length-1)
theorem Zwj.len {b:Zd} {k:Nat} {w:ZB} {ld:List Int} (h:Zwj b k w ld):(ndl w ld).length=(ZB.Parent w).length:=by
 have:=h.n1;unfold ndl;rw[ZmI];omega
theorem Zwj.bd {b:Zd} {k:Nat} {w:ZB} {ld:List Int} (h:Zwj b k w ld):∀ x∈ndl w ld,0<=x/\x<=301000000:=λx hx=>by
 have:=ZzW h.res h.lds _ x hx;have:=h.n1;have:=h.n8;omega
theorem Zwj.step {b:Zd} {k:Nat} {w:ZB} {ld:List Int} (h:Zwj b k w ld) {m:Nat} (hm:m+1<(ZB.Parent w).length) :
  ∃ p r l q,(ZB.Parent w)[m+1]?=some p/\(ZB.Res w)[m+1]?=some r/\ld[m+1]?=some l/\0<=p/\p<=(m:Int)/\(dlF w ld m)[p.toNat]?=some q/\Wq (q+Wq (r*l))=q+r*l/\dlF w ld (m+1)=dlF w ld m++[q+r*l]:=by
 obtain ⟨p,hp,p0,p1⟩:=h.par m hm;have hr:(ZB.Res w)[m+1]?=some ((ZB.Res w)[m+1]'(by have:=h.nr;omega)):=List.getElem?_eq_getElem _;have hl:ld[m+1]?=some (ld[m+1]'(by have:=h.nl;omega)):=List.getElem?_eq_getElem _;have hq:(dlF w ld m)[p.toNat]?=some ((dlF w ld m)[p.toNat]'(by rw[ZmI];omega)):=List.getElem?_eq_getElem _;have b1:=h.res _ (List.mem_of_getElem? hr);have b2:=h.lds _ (List.mem_of_getElem? hl);have b3:=ZzW h.res h.lds m _ (List.mem_of_getElem? hq);generalize (ZB.Res w)[m+1]'(by have:=h.nr;omega)=r at *;generalize ld[m+1]'(by have:=h.nl;omega)=l at *;generalize (dlF w ld m)[p.toNat]'(by rw[ZmI];omega)=q at *;have b4:=Zkj b1.1 b1.2 b2.1 b2.2;have:=h.n8;refine ⟨p,r,l,q,hp,hr,hl,p0,p1,hq,by rw[YT (n:=r*l) (by omega) (by omega),YT (by omega) (by omega)],?_⟩;show dlF w ld m++[_]=_;rw[hp,hr,hl];simp only[Option.getD_some];rw[hq];rfl
theorem Zr8 {b:Zd} {k:Nat} {w:ZB} {ld:List Int} (h:Zwj b k w ld):ZdA b (k:Int)=some (ndl w ld):=by
 have hn:=h.nl;have h1:=h.n1;have h8:=h.n8;unfold ZdA;rw[Zp,h.wire,Bq,h.ref,Bq];refine Yb ((ZB.Parent w).length-1) (λm v=>v=(dlF w ld m,((m+1:Nat):Int),())) _ rfl ?_ ?_
 ·rintro m _ hm rfl
  obtain ⟨p,r,l,q,e1,e2,e3,p0,p1,e4,e5,e6⟩:=h.step (m:=m) (by omega);have e4':atI (dlF w ld m) p=some q:=QF p0 e4;simp only[Zdm,show ((m+1:Nat):Int)<(ld.length:Int) from by omega,if_true,Zp,e1,e2,e3,e4',Bq,e5];rw[Zh (by rw[ZmI];simp only[List.length_cons,List.length_nil];omega),Xm (by omega)];exact .inl ⟨_,rfl,by rw[e6]⟩
 ·rintro _ rfl
  simp only[Zdm,show ¬(((ZB.Parent w).length-1+1:Nat):Int)<(ld.length:Int) from by omega,if_false];rfl
theorem ZwH {b:Zd} {k:Nat} {w:ZB} {ld:List Int} (h:Zwj b k w ld):QH b (k:Int)=some (ndl w ld):=by
 have hn:=h.nl;have h1:=h.n1;have h8:=h.n8;unfold QH;rw[Zp,h.wire,Bq,h.prog,Bq,Zh (by omega),Zh (by omega),Zh (by omega),Zh (by omega)];refine Yb ((ZB.Parent w).length-1) (λm v=>v=(((m+1:Nat):Int),dlF w ld m++List.replicate ((ZB.Parent w).length-1-m) (0:Int),())) _ ?_ ?_ ?_
 ·rw[Int.toNat_natCast,hn]
  simp only[Prod.mk.injEq,and_true];refine ⟨rfl,?_⟩;show List.replicate (ZB.Parent w).length (0:Int)=[0]++List.replicate ((ZB.Parent w).length-1-0) 0;rw[show (ZB.Parent w).length=((ZB.Parent w).length-1)+1 by omega,List.replicate_succ];simp
 ·rintro m _ hm rfl
  obtain ⟨p,r,l,q,e1,e2,e3,p0,p1,e4,e5,e6⟩:=h.step (m:=m) (by omega);have hlen:=ZmI w ld m;have e4':atI (dlF w ld m++List.replicate ((ZB.Parent w).length-1-m) (0:Int)) p=some q:=QF p0 (by rw[List.getElem?_append_left (by omega)];exact e4);have e7:(dlF w ld m++List.replicate ((ZB.Parent w).length-1-m) (0:Int))[m+1]?=some 0:=by
   rw[List.getElem?_append_right (by omega),hlen,List.getElem?_replicate,if_pos (by omega)]
  have hl2:(dlF w ld m++List.replicate ((ZB.Parent w).length-1-m) (0:Int)).length=(ZB.Parent w).length:=by
   rw[List.length_append,List.length_replicate];omega
  simp only[X5,hl2,show ((m+1:Nat):Int)<((ZB.Parent w).length:Int) from by omega,if_true,Zp,e1,e2,e3,e4',e7,Bq,e5];rw[Xm (by omega)];refine .inl ⟨_,rfl,?_⟩;simp only[Prod.mk.injEq,and_true,true_and,Int.toNat_natCast];rw[e6,List.set_append_right _ _ (by omega),hlen,show (ZB.Parent w).length-1-m=((ZB.Parent w).length-1-(m+1))+1 by omega,List.replicate_succ,Nat.sub_self,List.set_cons_zero,List.append_assoc];rfl
 ·rintro _ rfl
  have hl2:(dlF w ld ((ZB.Parent w).length-1)++List.replicate ((ZB.Parent w).length-1-((ZB.Parent w).length-1)) (0:Int)).length=(ZB.Parent w).length:=by
   rw[List.length_append,List.length_replicate,ZmI];omega
  simp only[X5,hl2,show ¬(((ZB.Parent w).length-1+1:Nat):Int)<((ZB.Parent w).length:Int) from by omega,if_false];rw[Nat.sub_self,List.replicate_zero,List.append_nil];rfl
theorem ZDd {l:List Int} (h:Inc l) {i:Nat} {x:Int} (hx:l[i]?=some x):∀ (m:Nat) (y:Int),l[i+m+1]?=some y->x<y
 | 0,y,hy=>h i x y hx hy
 | m+1,y,hy=>by
  have hl:=(List.getElem?_eq_some_iff.1 hy).1;have hz:l[i+m+1]?=some (l[i+m+1]'(by omega)):=List.getElem?_eq_getElem _;have h1:=ZDd h hx m _ hz;have h2:=h (i+m+1) _ y hz hy;omega
theorem ZoJ {l:List Int} (h:Inc l) {i j:Nat} {x y:Int} (hij:i<j) (hx:l[i]?=some x) (hy:l[j]?=some y):x<y :=
 ZDd h hx (j-i-1) y (by grind)
def On (l:List Int) (x:Int) (j:Nat):Prop:=l[j]?=some x
def Btw (l:List Int) (x:Int) (j:Nat) (y z:Int):Prop:=l[j]?=some y/\l[j+1]?=some z/\y<x/\x<z
theorem ZGz {l:List Int} {x a c:Int} (h0:l[0]?=some a) (h1:l[l.length-1]?=some c) (hx0:a<=x) (hx1:x<=c):(∃ j,On l x j)\/∃ j y z,Btw l x j y z:=by
 have key:∀ (k:Nat) (y:Int),l[k]?=some y->y<=x\/((∃ j,On l x j)\/∃ j y z,Btw l x j y z):=by
  intro k;induction k with
  | zero =>
   grind
  | succ k ih =>
   intro y hy;have hl:=(List.getElem?_eq_some_iff.1 hy).1;have hz:l[k]?=some (l[k]'(by omega)):=List.getElem?_eq_getElem _;rcases ih _ hz with q | q
   ·by_cases w:y<=x
    ·exact .inl w
    ·right
     by_cases e:l[k]'(by omega)=x
     ·exact .inl ⟨k,by unfold On;rw[hz,e]⟩
     ·exact .inr ⟨k,_,y,hz,hy,by omega,by omega⟩
   ·exact .inr q
 rcases key _ c h1 with q | q
 ·exact .inl ⟨l.length-1,by unfold On;grind⟩
 ·exact q
structure Fst (l:List Int) (x:Int) (p:Nat):Prop where
 le:p<=l.length
 low:∀ (i:Nat) (y:Int),i<p->l[i]?=some y->y<x
 up:∀ (i:Nat) (y:Int),p<=i->l[i]?=some y->x<=y
theorem Fst.on {l:List Int} {x:Int} {p j:Nat} (h:Fst l x p) (hi:Inc l) (hj:On l x j):p=j:=by
 have hjl:=(List.getElem?_eq_some_iff.1 hj).1;rcases Nat.lt_trichotomy p j with q | q | q
 ·have hp:l[p]?=some (l[p]'(by omega)):=List.getElem?_eq_getElem _
  have h1:=ZoJ hi q hp hj;have h2:=h.up p _ (Nat.le_refl _) hp;omega
 ·exact q
 ·have:=h.low j x q hj
  omega
theorem Fst.btw {l:List Int} {x:Int} {p j:Nat} {y z:Int} (h:Fst l x p) (hi:Inc l) (hj:Btw l x j y z):p=j+1:=by
 obtain ⟨h1,h2,h3,h4⟩:=hj;have hjl:=(List.getElem?_eq_some_iff.1 h2).1;rcases Nat.lt_trichotomy p (j+1) with q | q | q
 ·have:=h.up j y (by omega) h1
  omega
 ·exact q
 ·have:=h.low (j+1) z q h2
  omega
theorem ZBI {ρ:Type} {l:List Int} {x:Int} (hi:Inc l) {step:Int×Int×Unit->Option ((Int×Int×Unit) ⊕ ρ)} {good:Nat->ρ}
  (h1:∀ (i j:Nat) (y:Int),i<j->j<=l.length->l[(i+j) / 2]?=some y->step ((i:Int),(j:Int),())=some (.inl (if y<x then (((i+j) / 2+1:Nat):Int) else (i:Int),if y<x then (j:Int) else (((i+j) / 2:Nat):Int),())))
  (h2:∀ i:Nat,i<=l.length->step ((i:Int),(i:Int),())=some (.inr (good i))):∃ p,Fst l x p/\Zo step ((0:Int),(l.length:Int),())=some (good p):=by
 obtain ⟨r,e,p,rfl,hp⟩:=ZeD (step:=step) (v:=((0:Int),(l.length:Int),())) (λv=>∃ i j:Nat,v=((i:Int),(j:Int),())/\i<=j/\j<=l.length/\(∀ (k:Nat) (y:Int),k<i->l[k]?=some y->y<x)/\∀ (k:Nat) (y:Int),j<=k->l[k]?=some y->x<=y) (λv=>(v.2.1-v.1).toNat) (λr=>∃ p,r=good p/\Fst l x p)
  ⟨0,l.length,rfl,by omega,Nat.le_refl _,λk y hk=>by omega,λk y hk hy=>by grind⟩ (by
   rintro _ ⟨i,j,rfl,hij,hj,hlo,hup⟩;by_cases c:i<j
   ·left
    have hy:l[(i+j) / 2]?=some (l[(i+j) / 2]'(by omega)):=List.getElem?_eq_getElem _;generalize l[(i+j) / 2]'(by omega)=y at hy;refine ⟨_,h1 i j y c hj hy,?_,?_⟩
    ·by_cases d:y<x
     ·refine ⟨(i+j) / 2+1,j,by grind,by omega,hj,λk z hk hz=>?_,hup⟩
      by_cases w:k=(i+j) / 2
      ·grind
      ·have:=ZoJ hi (by omega) hz hy;omega
     ·refine ⟨i,(i+j) / 2,by grind,by omega,by omega,hlo,λk z hk hz=>?_⟩
      by_cases w:k=(i+j) / 2
      ·grind
      ·have:=ZoJ hi (by omega) hy hz;omega
    ·by_cases d:y<x
     ·rw[if_pos d,if_pos d];simp only;omega
     ·rw[if_neg d,if_neg d];simp only;omega
   ·right
    have:i=j:=by omega
    subst this;exact ⟨_,h2 i hj,i,rfl,hj,hlo,hup⟩)
 exact ⟨p,hp,e⟩
structure ZHc (l:List Int) (j a b:Int):Prop where
 j0:0<=j
 jl:j<l.length
 jb:0<b->j+1<l.length
 a0:0<a
 b0:0<=b
 ab:a+b<=100000
def wl (j a b:Int):List ZbP:=if b=0 then [(j,a,())] else [(j,a,()),(j+1,b,())]
theorem ZD1 {i j:Nat} (h:i+j<=100):Wq (Int.fdiv (IntKind.wrap IntKind.u64 (Wq ((i:Int)+(j:Int)))) ((2:Int) ^ Min.min (Int.toNat (1:Int)) (IntKind.bits IntKind.u64)))=(((i+j) / 2:Nat):Int):=by
 rw[YT (n:=(i:Int)+(j:Int)) (by omega) (by omega),show IntKind.wrap IntKind.u64 ((i:Int)+(j:Int))=(i:Int)+(j:Int) from IntWalk.u64_in _ (by omega),show ((2:Int) ^ Min.min (Int.toNat (1:Int)) (IntKind.bits IntKind.u64))=2 from by decide,Int.fdiv_eq_ediv_of_nonneg _ (by omega),YT (by omega) (by omega)];omega
theorem ZEd (x y:Int):ZfQ x y=some (decide (x<y)):=by
 unfold ZfQ ZeG;rw[Bq,decide_eq_true (show x=x from rfl)];rfl
theorem ZGn (x:Int):Zah x=some false:=by
 unfold Zah;rw[decide_eq_true (show x=x from rfl)];rfl
theorem ZA2 {l:List Int} (hi:Inc l) (hl:l.length<=4) (x:Int):∃ p,Fst l x p/\X4 l x=some ((p:Int),decide (l[p]?=some x)):=by
 unfold X4;refine ZBI (x:=x) (good:=λp=>((p:Int),decide (l[p]?=some x))) hi (λi j y hij hj hy=>?_) (λi hi=>?_)
 ·simp only[Qm,show (i:Int)<(j:Int) from by omega,if_true,ZD1 (show i+j<=100 by omega),Zp,hy,Bq,ZEd,decide_eq_true_eq,Xm (show (i+j) / 2<=1048576 by omega)]
  by_cases c:y<x
  ·rw[if_pos c,if_pos c,if_pos c]
  ·rw[if_neg c,if_neg c,if_neg c]
 ·simp only[Qm,Int.lt_irrefl,if_false]
  by_cases c:i<l.length
  ·have hy:l[i]?=some l[i]:=List.getElem?_eq_getElem c
   generalize l[i]=y at hy;rw[if_pos (show (i:Int)<(l.length:Int) by omega),Zp,hy,Bq];by_cases e:y=x
   ·rw[if_pos e,decide_eq_true (by rw[e])]
   ·rw[if_neg e,ZGn,Bq,if_neg (by simp),decide_eq_false (by rw[Option.some.injEq];exact e)]
  ·rw[if_neg (show ¬(i:Int)<(l.length:Int) by omega),List.getElem?_eq_none (by omega)]
   rfl
theorem ZtI {l:List Int} (h:ZgS l) (x:Int):∃ j a b,ZHc l j a b/\ZcC l x=some (j,a,b)/\Zgn l x=some (wl j a b,a+b):=by
 obtain ⟨l1,l4,hin,hi⟩:=h;have h0:l[0]?=some (l[0]'(by omega)):=List.getElem?_eq_getElem _;have hn:l[l.length-1]?=some (l[l.length-1]'(by omega)):=List.getElem?_eq_getElem _;generalize l[0]'(by omega)=x1 at h0;generalize l[l.length-1]'(by omega)=x2 at hn;have h12:x1<=x2:=by
  by_cases q:l.length=1
  ·rw[q] at hn
   rw[h0] at hn;injection hn with hn
   omega
  ·have:=ZoJ hi (show 0<l.length-1 by omega) h0 hn
   omega
 have bd:∀ {j:Nat} {y:Int},l[j]?=some y->0<=y/\y<=100000:=λ{j y} hy=>hin y (List.mem_of_getElem? hy);have b1:=bd h0;have b2:=bd hn;have a0:atI l 0=some x1:=QF (Int.le_refl _) h0;have an:atI l (Wq ((↑(List.length l):Int)-(1:Int)))=some x2:=by
  rw[YT (by omega) (by omega)];exact QF (by omega) (by rw[<-hn];congr 1;omega)
 unfold ZcC Zgn;simp only[a0,an,Bq];have hc1:x1<=Min.min (Max.max x x1) x2:=by omega
 have hc2:Min.min (Max.max x x1) x2<=x2:=by omega
 have hd:∀ (i0:Int),Zak l x x1 x2 i0=if (0:Int)<=i0 then
   (atI l i0).bind λx3 =>
   if Min.min (Max.max x x1) x2=x3 then
    some (.inr (i0,(1:Int),(0:Int)))
   else
    if x3<Min.min (Max.max x x1) x2 then
     (atI l (Wq (i0+(1:Int)))).bind λx4 =>
     some (.inr (i0,Wq (x4-Min.min (Max.max x x1) x2),Wq (Min.min (Max.max x x1) x2-x3)))
    else
     some (.inl (Wq (i0-(1:Int)),()))
  else
   some (.inr ((0:Int),(1:Int),(0:Int))):=λi0=>rfl
 generalize Min.min (Max.max x x1) x2=c at hc1 hc2 hd ⊢;obtain ⟨p,hp,hs⟩:=ZA2 hi l4 c;rw[hs,Bq];rcases ZGz h0 hn hc1 hc2 with ⟨j,hj⟩ | ⟨j,y,z,hj⟩
 ·have hjl:=(List.getElem?_eq_some_iff.1 hj).1
  have hpj:=hp.on hi hj;subst hpj;refine ⟨(p:Int),1,0,⟨by omega,by omega,λq=>by omega,by omega,by omega,by omega⟩,?_,?_⟩
  ·have key:∀ (r:Nat),p+r<l.length->Zo (λv=>Zak l x x1 x2 v.1) (((p+r:Nat):Int),())=some ((p:Int),(1:Int),(0:Int)):=by
    intro r;induction r with
    | zero =>
     intro hr;refine YI ?_;simp only[hd,Nat.add_zero,show (0:Int)<=(p:Int) from by omega,if_true,Zp];rw[hj,Bq,if_pos rfl]
    | succ r ih =>
     intro hr;have hy:l[p+(r+1)]?=some (l[p+(r+1)]'hr):=List.getElem?_eq_getElem _;generalize l[p+(r+1)]'hr=y at hy;have hlt:=ZoJ hi (show p<p+(r+1) by omega) hj hy;refine (Y1 ?_).trans (ih (by omega));simp only[hd,show (0:Int)<=((p+(r+1):Nat):Int) from by omega,if_true,Zp,hy,Bq];rw[if_neg (by omega),if_neg (by omega),YT (by omega) (by omega),show ((p+(r+1):Nat):Int)-1=((p+r:Nat):Int) by omega]
   have:=key (l.length-1-p) (by omega);rw[show p+(l.length-1-p)=l.length-1 by omega] at this;rw[YT (by omega) (by omega),show (l.length:Int)-1=((l.length-1:Nat):Int) by omega];exact this
  ·rw[if_pos (decide_eq_true (show l[p]?=some c from hj))]
   rfl
 ·obtain ⟨h1,h2,h3,h4⟩:=hj
  have hjl:=(List.getElem?_eq_some_iff.1 h2).1;have hpj:=hp.btw hi ⟨h1,h2,h3,h4⟩;subst hpj;have by1:=bd h1;have bz1:=bd h2;have hne:¬l[j+1]?=some c:=λq=>by rw[h2] at q;injection q with q;omega
  refine ⟨(j:Int),z-c,c-y,⟨by omega,by omega,λq=>by omega,by omega,by omega,by omega⟩,?_,?_⟩
  ·have key:∀ (r:Nat),j+r<l.length->Zo (λv=>Zak l x x1 x2 v.1) (((j+r:Nat):Int),())=some ((j:Int),z-c,c-y):=by
    intro r;induction r with
    | zero =>
     intro hr;refine YI ?_;simp only[hd,Nat.add_zero,show (0:Int)<=(j:Int) from by omega,if_true,Zp];rw[h1,Bq,if_neg (by omega),if_pos h3,Xm (show j<=1048576 by omega),Zp,h2,Bq,YT (by omega) (by omega),YT (by omega) (by omega)]
    | succ r ih =>
     intro hr;have hw:l[j+(r+1)]?=some (l[j+(r+1)]'hr):=List.getElem?_eq_getElem _;generalize l[j+(r+1)]'hr=w at hw;have hlt:z<=w:=by
      by_cases q:r=0
      ·subst q;rw[h2] at hw;injection hw with hw;omega
      ·have:=ZoJ hi (show j+1<j+(r+1) by omega) h2 hw;omega
     refine (Y1 ?_).trans (ih (by omega));simp only[hd,show (0:Int)<=((j+(r+1):Nat):Int) from by omega,if_true,Zp,hw,Bq];rw[if_neg (by omega),if_neg (by omega),YT (by omega) (by omega),show ((j+(r+1):Nat):Int)-1=((j+r:Nat):Int) by omega]
   have:=key (l.length-1-j) (by omega);rw[show j+(l.length-1-j)=l.length-1 by omega] at this;rw[YT (by omega) (by omega),show (l.length:Int)-1=((l.length-1:Nat):Int) by omega];exact this
  ·rw[if_neg (by rw[decide_eq_true_eq];exact hne),Zp,h2,Bq,YT (n:=((j+1:Nat):Int)-1) (by omega) (by omega),show ((j+1:Nat):Int)-1=(j:Int) by omega,Zp,h1,Bq,YT (by omega) (by omega),YT (by omega) (by omega),YT (by omega) (by omega)]
   unfold wl;rw[if_neg (by omega)];simp only[Option.some.injEq,Prod.mk.injEq];refine ⟨?_,by omega⟩;rw[show ((j+1:Nat):Int)=(j:Int)+1 by omega]
theorem Zju (a b m:Int):Zcg a b m=Y8 a b m:=by
 unfold Zcg Y8;grind
theorem Zt3 {a b m:Int} (hb:0<b) (ha:-4000000000000000000<=a) (ha2:a<=4000000000000000000) (hm:m=0\/m=1):∃ r,Y8 a b m=some r/\∀ M:Int,0<=M->M*b<=4000000000000000000->(a<=M*b->r<=M)/\(-(M*b)<=a->-M<=r)/\(0<=a->0<=r):=by
 have e:=Int.mul_tdiv_add_tmod a b;have m1:=Int.tmod_lt_of_pos a hb;have m2:=Int.lt_tmod_of_pos a hb;have up:∀ M:Int,a<=M*b->Int.tdiv a b<=M/\(0<Int.tmod a b->Int.tdiv a b+1<=M):=λM h=>by
  constructor
  ·refine Classical.byContradiction λq=>?_
   have:=Int.mul_le_mul_of_nonneg_left (show M+1<=Int.tdiv a b by omega) (show 0<=b by omega);grind
  ·intro h2
   refine Classical.byContradiction λq=>?_;have:=Int.mul_le_mul_of_nonneg_left (show M<=Int.tdiv a b by omega) (show 0<=b by omega);grind
 have lo:∀ M:Int,-(M*b)<=a->-M<=Int.tdiv a b/\(Int.tmod a b<0->-M<=Int.tdiv a b-1):=λM h=>by
  constructor
  ·refine Classical.byContradiction λq=>?_
   have:=Int.mul_le_mul_of_nonneg_left (show Int.tdiv a b<=-(M+1) by omega) (show 0<=b by omega);grind
  ·intro h2
   refine Classical.byContradiction λq=>?_;have:=Int.mul_le_mul_of_nonneg_left (show Int.tdiv a b<=-M by omega) (show 0<=b by omega);grind
 have big:Int.tdiv a b<=4000000000000000000/\-4000000000000000000<=Int.tdiv a b:=by
  have h1:(4000000000000000000:Int)<=4000000000000000000*b:=by omega
  have:=up 4000000000000000000 (by omega);have:=lo 4000000000000000000 (by omega);omega
 have nn:0<=a->0<=Int.tdiv a b/\¬Int.tmod a b<0:=λh=>by
  have:=Int.tmod_nonneg b h;have:=Int.tdiv_nonneg h (show 0<=b by omega);omega
 unfold Y8;rw[Zh (by omega),YT (n:=Int.tdiv a b) (by omega) (by omega)];by_cases h1:Int.tmod a b<0
 ·rw[if_pos h1]
  by_cases m0:m=0
  ·rw[if_pos m0,YT (by omega) (by omega)]
   grind
  ·rw[if_neg m0,if_neg (show ¬(0:Int)<Int.tmod a b by omega)]
   grind
 ·rw[if_neg h1]
  by_cases h2:(0:Int)<Int.tmod a b
  ·rw[if_pos h2]
   by_cases m1':m=1
   ·rw[if_pos m1',YT (by omega) (by omega)]
    grind
   simp_all
  ·rw[if_neg h2]
   grind
def ZpS (t:Zz) (i k:Int):Int:=(atI (Zz.Values t) (i*((Zz.Loads t).length:Int)+k)).getD 0
def tm (t:Zz) (i k a c:Int):Int:=if 0<a*c then ZpS t i k*(a*c) else 0
theorem ZuR {t:Zz} (h:JA t) {i k:Int} (i0:0<=i) (i1:i<(Zz.Zgg t).length) (k0:0<=k) (k1:k<(Zz.Loads t).length) :
  atI (Zz.Values t) (i*((Zz.Loads t).length:Int)+k)=some (ZpS t i k)/\(-1000000<=ZpS t i k/\ZpS t i k<=1000000)/\0<=i*((Zz.Loads t).length:Int)/\i*((Zz.Loads t).length:Int)<=16:=by
 obtain ⟨h1,h2,h3,h4⟩:=h;have b:=Zkj i0 (show i<=4 by have:=h1.2.1;omega) (show (0:Int)<=((Zz.Loads t).length:Int) by omega) (show ((Zz.Loads t).length:Int)<=4 by have:=h2.2.1;omega);have hlt:i*((Zz.Loads t).length:Int)+k<(Zz.Values t).length:=by
  have e:=Int.mul_le_mul_of_nonneg_right (show i+1<=((Zz.Zgg t).length:Int) by omega) (show (0:Int)<=((Zz.Loads t).length:Int) by omega);grind
 obtain ⟨x,hx,hx2⟩:=Zme (l:=Zz.Values t) (i:=i*((Zz.Loads t).length:Int)+k) (by omega) hlt;have hm:=h4 x (List.mem_of_getElem? hx2);have e:ZpS t i k=x:=by unfold ZpS;rw[hx];rfl
 grind
theorem Zxa {t:Zz} (h:JA t) {i k a c:Int} (hi:0<a->0<=i/\i<(Zz.Zgg t).length) (hk:0<c->0<=k/\k<(Zz.Loads t).length) (a0:0<=a) (c0:0<=c):-(1000000*(a*c))<=tm t i k a c/\tm t i k a c<=1000000*(a*c):=by
 unfold tm;by_cases q:0<a*c
 ·rw[if_pos q]
  have ha:0<a:=by
   grind
  have hc:0<c:=by
   grind
  obtain ⟨_,⟨b1,b2⟩,_⟩:=ZuR h (hi ha).1 (hi ha).2 (hk hc).1 (hk hc).2;exact ZrM b1 b2 (by omega)
 ·rw[if_neg q]
  have:=Int.mul_nonneg a0 c0;omega
theorem ZFw {t:Zz} {i k a:Int}:tm t i k a 0=0:=by unfold tm;grind
theorem Zys {t:Zz} {i k c:Int}:tm t i k 0 c=0:=by unfold tm;grind
def Zzr (t:Zz) (j a b k c d:Int):Int:=tm t j k a c+tm t j (k+1) a d+(tm t (j+1) k b c+tm t (j+1) (k+1) b d)
theorem Zrd {t:Zz} (h:JA t) {w:List ZbP×Int} {v1 i A s v3 k c:Int} (i0:0<=i) (i1:i<(Zz.Zgg t).length) (A0:0<A) (A1:A<=100000) (hk:atI w.1 v3=some (k,c,())) (hv:v3<w.1.length) (hv2:v3<=10) (hv0:0<=v3) (k0:0<=k) (k1:k<(Zz.Loads t).length) (c0:0<c) (c1:c<=100000) (s1:-100000000000000000<=s) (s2:s<=100000000000000000) :
  Qf t w v1 (i,A,()) s v3=some (.inl (s+tm t i k A c,v3+1,())):=by
 obtain ⟨hx,⟨b1,b2⟩,b3,b4⟩:=ZuR h i0 i1 k0 k1;have l4:=h.2.1.2.1;have p:=Zkj (show 0<=A by omega) A1 (show 0<=c by omega) c1;have pp:0<A*c:=Int.mul_pos A0 c0;have q:=ZrM b1 b2 (show 0<=A*c by omega);have q1:=ZrM b1 b2 (show 0<=A by omega);have e:tm t i k A c=ZpS t i k*(A*c):=by unfold tm;rw[if_pos pp]
 simp only[Qf,if_pos hv,hk,Bq];show (atI (Zz.Values t) (Wq (Wq (i*((Zz.Loads t).length:Int))+k))).bind _=_;rw[YT (n:=i*((Zz.Loads t).length:Int)) (by omega) (by omega),YT (n:=i*((Zz.Loads t).length:Int)+k) (by omega) (by omega),hx,Bq];show some (Sum.inl (Wq (s+Wq (Wq (ZpS t i k*A)*c)),Wq (v3+1),()))=_;rw[YT (n:=ZpS t i k*A) (by omega) (by omega),Int.mul_assoc,YT (n:=ZpS t i k*(A*c)) (by omega) (by omega),YT (n:=s+ZpS t i k*(A*c)) (by omega) (by omega),YT (n:=v3+1) (by omega) (by omega),e]
theorem ZxO {t:Zz} {w:List ZbP×Int} {v1 s v3:Int} {x:ZbP} (hv:v3=w.1.length):Qf t w v1 x s v3=some (.inr (.inl (s,Wq (v1+1),()))):=by
 simp only[Qf,if_neg (show ¬v3<(w.1.length:Int) by omega)]
theorem ZxP {t:Zz} (h:JA t) {w:List ZbP×Int} {k c d:Int} (hw:w.1=wl k c d) (hk:ZHc (Zz.Loads t) k c d) {v1 i A s:Int} (i0:0<=i) (i1:i<(Zz.Zgg t).length) (A0:0<A) (A1:A<=100000) (s1:-50000000000000000<=s) (s2:s<=50000000000000000) :
  Zo (λv=>Qf t w v1 (i,A,()) v.1 v.2.1) (s,(0:Int),())=some (.inl (s+(tm t i k A c+tm t i (k+1) A d),Wq (v1+1),())):=by
 have hab:=hk.ab;have ha0:=hk.a0;have hb0:=hk.b0;have hj0:=hk.j0;have hjl:=hk.jl;have p:=Zkj (show 0<=A by omega) A1 (show 0<=c by omega) (show c<=100000 by omega);have q:=Zxa h (i:=i) (k:=k) (a:=A) (c:=c) (λ_=>⟨i0,i1⟩) (λ_=>⟨hj0,hjl⟩) (by omega) (by omega);unfold wl at hw;by_cases hd:d=0
 ·rw[if_pos hd] at hw
  subst hd;refine (Y1 (v':=(s+tm t i k A c,(1:Int),())) ?_).trans (YI ?_)
  ·exact Zrd (s:=s) (v3:=0) h i0 i1 A0 A1 (by rw[hw];rfl) (by grind) (by omega) (by omega) hj0 hjl ha0 (by omega) (by omega) (by omega)
  ·rw[ZFw,Int.add_zero]
   exact ZxO (by rw[hw];rfl)
 ·rw[if_neg hd] at hw
  have hjb:=hk.jb (by omega);refine (Y1 (v':=(s+tm t i k A c,(1:Int),())) ?_).trans ((Y1 (v':=(s+tm t i k A c+tm t i (k+1) A d,(2:Int),())) ?_).trans (YI ?_))
  ·exact Zrd (s:=s) (v3:=0) h i0 i1 A0 A1 (by rw[hw];rfl) (by grind) (by omega) (by omega) hj0 hjl ha0 (by omega) (by omega) (by omega)
  ·exact Zrd (s:=s+tm t i k A c) (v3:=1) h i0 i1 A0 A1 (by rw[hw];rfl) (by grind) (by omega) (by omega) (by omega) hjb (by omega) (by omega) (by omega) (by omega)
  ·rw[<-Int.add_assoc]
   exact ZxO (by rw[hw];rfl)
theorem Zv1 {t:Zz} (h:JA t) {j k:Int} {v1 v3 s W1 a c:Int} (hv1:v1=0\/v1=1) (hv3:v3=0\/v3=1) (hj:0<=j) (hj1:0<a->j+v1<(Zz.Zgg t).length) (hj4:j<=4) (hk:0<=k) (hk1:0<c->k+v3<(Zz.Loads t).length) (a0:0<=a) (a1:a<=100000) (c0:0<=c) (c1:c<=100000) (s1:-100000000000000000<=s) (s2:s<=100000000000000000) :
  (if (0:Int)<Wq (a*c) then
     (atI (Zz.Values t) (Wq (Wq (Wq (Wq (j+v1)*(↑(List.length (Zz.Loads t)):Int))+k)+v3))).bind λx0 =>
     some (Sum.inl (Wq (s+Wq (Wq (a*c)*x0)),Wq (v3+(1:Int)),()))
    else
     some (.inl (s,Wq (v3+(1:Int)),())):Option ((Int×Int×Unit) ⊕ ((Int×Int×Unit) ⊕ Int)))=some (.inl (s+tm t (j+v1) (k+v3) a c,v3+1,())):=by
 have p:=Zkj a0 a1 c0 c1;rw[YT (n:=a*c) (by omega) (by omega),YT (n:=v3+1) (by omega) (by omega)];by_cases pp:0<a*c
 ·have ha:0<a:=by
   grind
  have hc:0<c:=by
   grind
  obtain ⟨hx,⟨b1,b2⟩,b3,b4⟩:=ZuR h (i:=j+v1) (k:=k+v3) (by omega) (hj1 ha) (by omega) (hk1 hc);have l4:=h.2.1.2.1;have kk:=hk1 hc;have q:=ZrM b1 b2 (show 0<=a*c by omega);rw[if_pos pp,YT (n:=j+v1) (by omega) (by omega),YT (n:=(j+v1)*((Zz.Loads t).length:Int)) (by omega) (by omega),YT (n:=(j+v1)*((Zz.Loads t).length:Int)+k) (by omega) (by omega),Int.add_assoc,YT (n:=(j+v1)*((Zz.Loads t).length:Int)+(k+v3)) (by omega) (by omega),hx,Bq];unfold tm;rw[if_pos pp,Int.mul_comm (a*c),YT (n:=ZpS t (j+v1) (k+v3)*(a*c)) (by omega) (by omega),YT (by omega) (by omega)]
 ·rw[if_neg pp]
  unfold tm;grind
theorem Zyo {t:Zz} (h:JA t) {j a b k c d:Int} (hj:ZHc (Zz.Zgg t) j a b) (hk:ZHc (Zz.Loads t) k c d) {v1 s A:Int} (hv:v1=0/\A=a\/v1=1/\A=b) (s1:-50000000000000000<=s) (s2:s<=50000000000000000) :
  Zo (λv=>Qv t (j,a,b) (k,c,d) v1 v.1 v.2.1) (s,(0:Int),())=some (.inl (s+(tm t (j+v1) k A c+tm t (j+v1) (k+1) A d),Wq (v1+1),())):=by
 have j1:=hj.ab;have j2:=hj.a0;have j3:=hj.b0;have j4:=hj.j0;have j5:=hj.jl;have j6:=hj.jb;have k1:=hk.ab;have k2:=hk.a0;have k3:=hk.b0;have k4:=hk.j0;have k5:=hk.jl;have k6:=hk.jb;have l4:=h.1.2.1;have A0:0<=A/\A<=100000/\(0<A->j+v1<(Zz.Zgg t).length)/\0<=j+v1:=by
  rcases hv with ⟨rfl,rfl⟩ | ⟨rfl,rfl⟩
  ·exact ⟨by omega,by omega,λ_=>by omega,by omega⟩
  ·exact ⟨by omega,by omega,λq=>j6 q,by omega⟩
 obtain ⟨A1,A2,A3,A4⟩:=A0;have p:=Zkj A1 A2 (show 0<=c by omega) (show c<=100000 by omega);have q:=Zxa h (i:=j+v1) (k:=k) (a:=A) (c:=c) (λz=>⟨A4,A3 z⟩) (λ_=>⟨k4,k5⟩) A1 (by omega);have p2:=Zkj A1 A2 (show 0<=d by omega) (show d<=100000 by omega);have q2:=Zxa h (i:=j+v1) (k:=k+1) (a:=A) (c:=d) (λz=>⟨A4,A3 z⟩) (λz=>⟨by omega,k6 z⟩) A1 (by omega);have hv1:v1=0\/v1=1:=by omega
 refine (Y1 (v':=(s+tm t (j+v1) (k+0) A c,0+1,())) ?_).trans ((Y1 (v':=(s+tm t (j+v1) (k+0) A c+tm t (j+v1) (k+1) A d,1+1,())) ?_).trans (YI ?_))
 ·have e:=Zv1 h (v1:=v1) (v3:=0) (s:=s) (W1:=0) (a:=A) (c:=c) hv1 (.inl rfl) j4 A3 (by omega) k4 (λ_=>by omega) A1 A2 (by omega) (by omega) (by omega) (by omega)
  show Qv t (j,a,b) (k,c,d) v1 s 0=_;unfold Qv;rw[if_pos (by decide)];rcases hv with ⟨rfl,rfl⟩ | ⟨rfl,rfl⟩
  ·rw[if_neg (by decide),if_pos rfl];exact e
  ·rw[if_pos rfl,if_pos rfl];exact e
 ·rw[Int.add_zero]
  have e:=Zv1 h (v1:=v1) (v3:=1) (s:=s+tm t (j+v1) k A c) (W1:=0) (a:=A) (c:=d) hv1 (.inr rfl) j4 A3 (by omega) k4 (λz=>k6 z) A1 A2 (by omega) (by omega) (by omega) (by omega);show Qv t (j,a,b) (k,c,d) v1 (s+tm t (j+v1) k A c) 1=_;unfold Qv;rw[if_pos (by decide)];rcases hv with ⟨rfl,rfl⟩ | ⟨rfl,rfl⟩
  ·rw[if_neg (by decide),if_neg (by decide)];exact e
  ·rw[if_pos rfl,if_neg (by decide)];exact e
 ·rw[Int.add_zero]
  show Qv t (j,a,b) (k,c,d) v1 (s+tm t (j+v1) k A c+tm t (j+v1) (k+1) A d) 2=_;unfold Qv;rw[if_neg (by decide),Int.add_assoc]
theorem look_eq {t:Zz} (h:JA t) (s l:Int) {m:Int} (hm:m=0\/m=1):∃ r,ZaR t s l m=some r/\Zgy t s l m=some r/\-1000000<=r/\r<=1000000:=by
 obtain ⟨j,a,b,hj,e1,e2⟩:=ZtI h.1 s;obtain ⟨k,c,d,hk,e3,e4⟩:=ZtI h.2.1 l;have j1:=hj.ab;have j2:=hj.a0;have j3:=hj.b0;have j4:=hj.j0;have j5:=hj.jl;have j6:=hj.jb;have k1:=hk.ab;have k2:=hk.a0;have k3:=hk.b0;have k4:=hk.j0;have k5:=hk.jl;have k6:=hk.jb;have p1:=Zkj (show 0<=a by omega) (show a<=100000 by omega) (show 0<=c by omega) (show c<=100000 by omega);have p2:=Zkj (show 0<=a by omega) (show a<=100000 by omega) (show 0<=d by omega) (show d<=100000 by omega);have p3:=Zkj (show 0<=b by omega) (show b<=100000 by omega) (show 0<=c by omega) (show c<=100000 by omega);have p4:=Zkj (show 0<=b by omega) (show b<=100000 by omega) (show 0<=d by omega) (show d<=100000 by omega);have pp:=Int.mul_pos j2 k2;have q1:=Zxa h (i:=j) (k:=k) (a:=a) (c:=c) (λ_=>⟨j4,j5⟩) (λ_=>⟨k4,k5⟩) (by omega) (by omega);have q2:=Zxa h (i:=j) (k:=k+1) (a:=a) (c:=d) (λ_=>⟨j4,j5⟩) (λz=>⟨by omega,k6 z⟩) (by omega) (by omega);have q3:=Zxa h (i:=j+1) (k:=k) (a:=b) (c:=c) (λz=>⟨by omega,j6 z⟩) (λ_=>⟨k4,k5⟩) (by omega) (by omega);have q4:=Zxa h (i:=j+1) (k:=k+1) (a:=b) (c:=d) (λz=>⟨by omega,j6 z⟩) (λz=>⟨by omega,k6 z⟩) (by omega) (by omega);have eT:(a+b)*(c+d)=a*c+a*d+(b*c+b*d):=by rw[Int.add_mul,Int.mul_add,Int.mul_add]
 obtain ⟨r,hr,hb⟩:=Zt3 (a:=Zzr t j a b k c d) (b:=(a+b)*(c+d)) (m:=m) (by omega) (by unfold Zzr;omega) (by unfold Zzr;omega) hm;have hbd:=hb 1000000 (by omega) (by omega);refine ⟨r,?_,?_,hbd.2.1 (by unfold Zzr;omega),hbd.1 (by unfold Zzr;omega)⟩
 ·have fin:∀ v1:Int,v1=(wl j a b).length->YK t m (wl j a b,a+b) (wl k c d,c+d) (Zzr t j a b k c d) v1=some (.inr r):=λv1 hv=>by
   simp only[YK,hv,Int.lt_irrefl,if_false];rw[YT (n:=(a+b)*(c+d)) (by omega) (by omega),Zju,hr,Bq]
  unfold ZaR;rw[e2,e4,Bq,Bq];have r1:=ZxP h (w:=(wl k c d,c+d)) (v1:=0) (i:=j) (A:=a) (s:=0) rfl hk j4 j5 j2 (by omega) (by omega) (by omega);by_cases hz:b=0
  ·have ew:wl j a b=[(j,a,())]:=by unfold wl;rw[if_pos hz]
   refine (Y1 (v':=(Zzr t j a b k c d,(1:Int),())) ?_).trans (YI (fin 1 (by rw[ew];rfl)));show YK t m (wl j a b,a+b) (wl k c d,c+d) 0 0=_;unfold YK;rw[if_pos (by rw[ew];show (0:Int)<((1:Nat):Int);omega),show atI (wl j a b,a+b).fst (0:Int)=some (j,a,()) by rw[ew];rfl,Bq];refine r1.trans ?_;unfold Zzr;rw[hz,Zys,Zys,Int.add_zero,Int.add_zero,Int.zero_add];rfl
  ·have ew:wl j a b=[(j,a,()),(j+1,b,())]:=by unfold wl;rw[if_neg hz]
   have r2:=ZxP h (w:=(wl k c d,c+d)) (v1:=1) (i:=j+1) (A:=b) (s:=tm t j k a c+tm t j (k+1) a d) rfl hk (by omega) (j6 (by omega)) (by omega) (by omega) (by omega) (by omega);refine (Y1 (v':=(tm t j k a c+tm t j (k+1) a d,(1:Int),())) ?_).trans ((Y1 (v':=(Zzr t j a b k c d,(2:Int),())) ?_).trans (YI (fin 2 (by rw[ew];rfl))))
   ·show YK t m (wl j a b,a+b) (wl k c d,c+d) 0 0=_
    unfold YK;rw[if_pos (by rw[ew];show (0:Int)<((2:Nat):Int);omega),show atI (wl j a b,a+b).fst (0:Int)=some (j,a,()) by rw[ew];rfl,Bq];refine r1.trans ?_;rw[Int.zero_add];rfl
   ·show YK t m (wl j a b,a+b) (wl k c d,c+d) (tm t j k a c+tm t j (k+1) a d) 1=_
    unfold YK;rw[if_pos (by rw[ew];show (1:Int)<((2:Nat):Int);omega),show atI (wl j a b,a+b).fst (1:Int)=some (j+1,b,()) by rw[ew];rfl,Bq];exact r2
 ·unfold Zgy
  rw[e1,e3,Bq,Bq];have r1:=Zyo h hj hk (v1:=0) (s:=0) (A:=a) (.inl ⟨rfl,rfl⟩) (by omega) (by omega);have r2:=Zyo h hj hk (v1:=1) (s:=tm t j k a c+tm t j (k+1) a d) (A:=b) (.inr ⟨rfl,rfl⟩) (by omega) (by omega);refine (Y1 (v':=(tm t j k a c+tm t j (k+1) a d,(1:Int),())) ?_).trans ((Y1 (v':=(Zzr t j a b k c d,(2:Int),())) ?_).trans (YI ?_))
  ·show Vg t m (j,a,b) (k,c,d) 0 0=_
   unfold Vg;rw[if_pos (by decide)];refine r1.trans ?_;rw[Int.add_zero,Int.zero_add];rfl
  ·show Vg t m (j,a,b) (k,c,d) (tm t j k a c+tm t j (k+1) a d) 1=_
   unfold Vg;rw[if_pos (by decide)];exact r2
  ·show Vg t m (j,a,b) (k,c,d) (Zzr t j a b k c d) 2=_
   unfold Vg;rw[if_neg (by decide)];show (Y8 (Zzr t j a b k c d) (Wq (Wq (a+b)*Wq (c+d))) m).bind _=_;rw[YT (n:=a+b) (by omega) (by omega),YT (n:=c+d) (by omega) (by omega),YT (n:=(a+b)*(c+d)) (by omega) (by omega),hr];rfl
def sdl (w:ZB) (ld:List Int) (y:Int):Int:=(atI (ndl w ld) y).getD 0
theorem Zwj.sink {b:Zd} {k:Nat} {w:ZB} {ld:List Int} (h:Zwj b k w ld) {y:Int} (hy:y∈ZB.ZgD w):atI (ndl w ld) y=some (sdl w ld y)/\0<=sdl w ld y/\sdl w ld y<=301000000:=by
 have hs:=h.snk y hy;obtain ⟨x,h1,h2⟩:=Zgi (l:=ndl w ld) hs.1 (by rw[h.len];omega);have hb:=h.bd x h2;have e:sdl w ld y=x:=by unfold sdl;rw[h1];rfl
 grind
theorem Zsu {b:Zd} {k:Nat} {w:ZB} {ld:List Int} (h:Zwj b k w ld):XU b (k:Int)=some ((ZB.ZgD w).map (sdl w ld)):=by
 unfold XU;rw[ZwH h,Bq,Zp,h.wire,Bq];have hf:=h.few;refine Zx0 (l:=ZB.ZgD w) (by unfold Len;omega) (λo i=>(o,i,())) (g:=sdl w ld) (s0:=[]) (λm y hy s hs=>?_) ?_
 ·have hm:=(List.getElem?_eq_some_iff.1 hy).1
  have hl:s.length<=1048576:=by grind
  simp only[XW,show (m:Int)<((ZB.ZgD w).length:Int) from by omega,if_true,Zp,hy,(h.sink (List.mem_of_getElem? hy)).1,Bq];rw[Zh (by grind)]
 ·simp only[XW,Int.lt_irrefl,if_false,List.nil_append]
theorem ZuG {b:Zd} {k:Nat} {w:ZB} {ld:List Int} (h:Zwj b k w ld) {mode:Int} (hm:mode=0\/mode=1):∃ f:Int->Int,(∀ y∈ZB.ZgD w,Y8 (sdl w ld y) 1000 mode=some (f y)/\0<=f y/\f y<=301000)/\Zb3 b (k:Int) mode=some ((ZB.ZgD w).map f):=by
 have hf:=h.few;have key:∀ y∈ZB.ZgD w,Y8 (sdl w ld y) 1000 mode=some ((Y8 (sdl w ld y) 1000 mode).getD 0)/\0<=(Y8 (sdl w ld y) 1000 mode).getD 0/\(Y8 (sdl w ld y) 1000 mode).getD 0<=301000:=λy hy=>by
  have hs:=(h.sink hy).2;obtain ⟨r,hr,hb⟩:=Zt3 (a:=sdl w ld y) (b:=1000) (m:=mode) (by omega) (by omega) (by omega) hm;have:=hb 301000 (by omega) (by omega);grind
 refine ⟨λy=>(Y8 (sdl w ld y) 1000 mode).getD 0,key,?_⟩;unfold Zb3;rw[Zr8 h,Bq];refine Zx0 (l:=ZB.ZgD w) (by unfold Len;omega) (λo i=>(o,i,())) (g:=λy=>(Y8 (sdl w ld y) 1000 mode).getD 0) (s0:=[]) (λm y hy s hs=>?_) ?_
 ·have hm:=(List.getElem?_eq_some_iff.1 hy).1
  have hl:s.length<=1048576:=by grind
  simp only[ZaZ,Zp,h.wire,show (m:Int)<((ZB.ZgD w).length:Int) from by omega,if_true,hy,(h.sink (List.mem_of_getElem? hy)).1,Bq];rw[(key y (List.mem_of_getElem? hy)).1,Bq,Zh (by grind)];rfl
 ·simp only[ZaZ,Zp,h.wire,Bq,Int.lt_irrefl,if_false,List.nil_append]
theorem ZpG {α:Type} {p:α->Bool} {l:List α} {k:Nat} {x:α} (hx:l[k]?=some x) (hp:p x=true) (hf:∀ (j:Nat) (y:α),j<k->l[j]?=some y->p y=false):Za5 p l=(k:Int):=by
 have hk:=(List.getElem?_eq_some_iff.1 hx);have:l.findIdx? p=some k:=by
  rw[List.findIdx?_eq_some_iff_getElem];refine ⟨hk.1,by rw[hk.2];exact hp,λj hj=>?_⟩;have:=hf j (l[j]'(by have:=hk.1;omega)) hj (List.getElem?_eq_getElem _);simp[this]
 unfold Za5;rw[this]
theorem Zpx (d:Zf) (n:Int) (h:Few d):Zdz d n=some (Za5 (λx:Pl=>decide (x.2.2.1=n)&&x.2.2.2.1) (ZC d)):=by
 have hpl:=XE h;unfold Zdz;rw[Xv d h,Bq];refine Jv (out:=λi=>i) (show Len (ZC d) by show List.length _<=_;omega) (λk x hx=>?_) ?_
 ·have hk:=(List.getElem?_eq_some_iff.1 hx).1
  simp only[Zdi,show (k:Int)<((ZC d).length:Int) from by omega,if_true,Zp,hx,Bq,Bool.and_eq_true,decide_eq_true_eq];split
  ·rename_i e1
   split
   ·rename_i e2;rw[if_pos ⟨e1,e2⟩]
   ·rename_i e2;rw[if_neg (λq=>e2 q.2)]
  ·rename_i e1;rw[if_neg (λq=>e1 q.1)]
 ·simp only[Zdi,Int.lt_irrefl,if_false]
theorem Zwy {i:Nat} {x:Zk} {a:ZE} {d:Zf} (hl:Zu1 a) (h:Zj8 a d x) (hsm:(Zk.Qw x).length<=1048576):((Zaz i x).filter (λy=>y.2.2.2.1)).map (λy=>y.2.2.1)=[Zc9 x]:=by
 obtain ⟨_,⟨c,hc,hn⟩,_⟩:=h;have h2:2<=(Zn.Xi c).length:=(hl.2.1 c (List.mem_of_getElem? hc)).2.1.1;unfold Zaz Zc9;rw[Zi1 hsm (by omega)];generalize hN:Zk.Qw x=l;rw[hN] at hn;have hne:l.length≠0:=by omega
 have gen:∀ (l:List Int) (m n:Nat),m+l.length=n+1->l.length≠0->((cat (λj n'=>[((i:Int),(j:Int),n',decide ((j:Int)=((n:Nat):Int)),())]) m l).filter (λy:Pl=>y.2.2.2.1)).map (λy=>y.2.2.1)=[l.getLastD 0]:=by
  intro l;induction l with
  | nil=>intro m n _ h0;simp at h0
  | cons y r ih =>
   intro m n hm _;by_cases hr:r=[]
   ·subst hr
    simp only[List.length_cons,List.length_nil] at hm;have:(m:Int)=(n:Int):=by omega
    simp[cat,this]
   ·have hrl:r.length≠0:=λe=>hr (List.eq_nil_of_length_eq_zero e)
    simp only[List.length_cons] at hm;have hmn:¬(m:Int)=(n:Int):=by omega
    have:=ih (m+1) n (by omega) hrl;simp only[cat,List.cons_append,List.nil_append];rw[List.filter_cons_of_neg (by simp[hmn]),this];cases r with
    | nil=>exact absurd rfl hr
    | cons z q=>simp[List.getLastD_cons]
 exact gen l 0 (l.length-1) (by omega) hne
theorem Zwz (j:Nat) (p:Yj):((Zjj j p).filter (λy=>y.2.2.2.1)).map (λy=>y.2.2.1)=if Yj.Dir p=1 then [Yj.Net p] else []:=by
 unfold Zjj;by_cases h:Yj.Dir p=1
 ·simp[h]
 ·simp[h]
theorem ZyG {a:ZE} {d:Zf} (h:ZbX a d) (hsm:sm YZ d):((ZC d).filter (λy=>y.2.2.2.1)).map (λy=>y.2.2.1)=ZHv d:=by
 unfold ZC ZHv;rw[List.filter_append,List.map_append];congr 1
 ·have:∀ (l:List Zk) (m:Nat),(∀ x∈l,Zj8 a d x/\(Zk.Qw x).length<=1048576)->((cat Zaz m l).filter (λy=>y.2.2.2.1)).map (λy=>y.2.2.1)=l.map Zc9:=by
   intro l;induction l with
   | nil=>intro m _;rfl
   | cons x r ih =>
    intro m hl;have hx:=hl x (by simp);simp only[cat,List.filter_append,List.map_append,List.map_cons];rw[Zwy h.1 hx.1 hx.2,ih (m+1) (λy hy=>hl y (by simp[hy]))];rfl
  exact this _ 0 (λx hx=>⟨h.2.2.1 x hx,ZH (ZtD (Zr4 (ZlV hsm).1 hx)).2⟩)
 ·have:∀ (l:List Yj) (m:Nat),((cat Zjj m l).filter (λy=>y.2.2.2.1)).map (λy=>y.2.2.1)=(l.filter (λp=>decide (Yj.Dir p=1))).map Yj.Net:=by
   intro l;induction l with
   | nil=>intro m;rfl
   | cons p r ih =>
    intro m;simp only[cat,List.filter_append,List.map_append];rw[Zwz,ih (m+1)];by_cases hd:Yj.Dir p=1
    ·simp[hd]
    ·simp[hd]
  exact this _ 0
theorem Ztf {α:Type} {p:α->Bool} {l:List α} {i j:Nat} {a b:α} (hij:i<j) (ha:l[i]?=some a) (hb:l[j]?=some b) (pa:p a=true) (pb:p b=true):2<=l.countP p:=by
 have e:l.countP p=(l.take j).countP p+(l.drop j).countP p:=by rw[<-List.countP_append,List.take_append_drop]
 have h1:0<(l.take j).countP p:=List.countP_pos_iff.2 ⟨a,List.mem_iff_getElem?.2 ⟨i,by rw[List.getElem?_take,if_pos hij];exact ha⟩,pa⟩;have h2:0<(l.drop j).countP p:=List.countP_pos_iff.2 ⟨b,List.mem_iff_getElem?.2 ⟨0,by rw[List.getElem?_drop];exact hb⟩,pb⟩;omega
def Zxv (n:Int) (x:Pl):Bool:=decide (x.2.2.1=n)&&x.2.2.2.1
def Zjv (d:Zf) (n:Int):Int:=Za5 (Zxv n) (ZC d)
theorem ZzX {a:ZE} {d:Zf} (h:ZbX a d) (hsm:sm YZ d) {v:Nat} (hv:v<(Zf.Qw d).length):(ZC d).countP (Zxv (v:Int))=1:=by
 have h1:=h.2.2.2.2 _ (List.mem_of_getElem? (Znv (s:=ZHv d) hv));rw[<-ZyG h hsm,List.countP_map,List.countP_filter] at h1;have e:(ZC d).countP (Zxv (v:Int))=(ZC d).countP (λy=>((λx=>decide (x=(v:Int)))∘λy:Pl=>y.2.2.1) y&&y.2.2.2.1):=rfl;rw[e];omega
theorem Zxw {a:ZE} {d:Zf} (h:ZbX a d) (hsm:sm YZ d) {v:Nat} (hv:v<(Zf.Qw d).length) :
  ∃ (q:Nat) (y:Pl),(ZC d)[q]?=some y/\Zxv (v:Int) y=true/\Zjv d (v:Int)=(q:Int)/\∀ (p:Nat) (z:Pl),(ZC d)[p]?=some z->Zxv (v:Int) z=true->p=q:=by
 have hc:=ZzX h hsm hv;obtain ⟨y,hy,hp⟩:=List.countP_pos_iff.1 (show 0<(ZC d).countP (Zxv (v:Int)) by omega);obtain ⟨q,hq⟩:=List.mem_iff_getElem?.1 hy;have uniq:∀ (p:Nat) (z:Pl),(ZC d)[p]?=some z->Zxv (v:Int) z=true->p=q:=by
  intro p z hz hpz;rcases Nat.lt_trichotomy p q with hlt | he | hlt
  ·have:=Ztf hlt hz hq hpz hp;omega
  ·exact he
  ·have:=Ztf hlt hq hz hp hpz;omega
 refine ⟨q,y,hq,hp,ZpG hq hp (λj z hj hz=>?_),uniq⟩;cases hb:Zxv (v:Int) z
 ·rfl
 ·have:=uniq j z hz hb;omega
theorem Zk4 {b:Zd} (h:Xy b) {k:Nat} {w:ZB} (hw:(Zd.Xo b)[k]?=some w):∃ r,XU b (k:Int)=some r/\r.length<=1048576:=by
 have hW:=h.ok.2.2 k w hw;obtain ⟨⟨l1,l8⟩,lr,lc,ls,ht,ar,ac,asn⟩:=hW;obtain ⟨nl,hnl,hnl2⟩:=ZjO h hw;have hsm:=ZH (ZvZ (ZiF (Zne h.sm).2.2 hw)).2.2.2;have hnd:∃ r,QH b (k:Int)=some r/\r.length=(ZB.Parent w).length:=by
  unfold QH;rw[Zp,hw,Bq,hnl,Bq,Zh (by omega),Zh (by omega),Zh (by omega),Zh (by omega)];refine Zar ((ZB.Parent w).length-1) (λm v=>v.1=((m+1:Nat):Int)/\v.2.1.length=(ZB.Parent w).length) _ ⟨rfl,by simp[hnl2]⟩ ?_ ?_
  ·rintro m ⟨i,l,⟨⟩⟩ hm ⟨hi,hl⟩
   simp only at hi hl;subst hi;left;have hp:(ZB.Parent w)[m+1]?=some (ZB.Parent w)[m+1]:=List.getElem?_eq_getElem (by omega);generalize (ZB.Parent w)[m+1]=p at hp;have hp2:=(ht (m+1) p hp).2 (by omega);obtain ⟨q,hq1,_⟩:=Zgi (l:=l) hp2.1 (by omega);have hr:(ZB.Res w)[m+1]?=some (ZB.Res w)[m+1]:=List.getElem?_eq_getElem (by omega);have hn:nl[m+1]?=some nl[m+1]:=List.getElem?_eq_getElem (by omega);have hl2:l[m+1]?=some l[m+1]:=List.getElem?_eq_getElem (by omega);simp only[X5,show ((m+1:Nat):Int)<(l.length:Int) from by omega,if_true,Zp,hp,hq1,hr,hn,hl2,Bq];exact ⟨_,rfl,by rw[Xm (by omega)],by simp[hl]⟩
  ·rintro ⟨i,l,⟨⟩⟩ ⟨hi,hl⟩
   simp only at hi hl;subst hi;simp only[X5,show ¬(((ZB.Parent w).length-1+1:Nat):Int)<(l.length:Int) from by omega,if_false];grind
 obtain ⟨nd,hnd,hnd2⟩:=hnd;unfold XU;rw[hnd,Bq,Zp,hw,Bq];refine Zd4 (l:=ZB.ZgD w) (λm v=>v.1.length=m/\v.2.1=(m:Int)) _ ⟨rfl,rfl⟩ ?_ ?_
 ·rintro m y ⟨o,i,⟨⟩⟩ hy hm ⟨ho,hi⟩
  simp only at hi ho;subst hi;have hz2:=asn y (List.mem_of_getElem? hy);obtain ⟨q,hq1,_⟩:=Zgi (l:=nd) hz2.1 (by omega);simp only[XW,show (m:Int)<((ZB.ZgD w).length:Int) from by omega,if_true,Zp,hy,hq1,Bq];rw[Zh (by simp;omega)];exact ⟨_,rfl,by simp[ho],by rw[Xm (by omega)]⟩
 ·rintro ⟨o,i,⟨⟩⟩ ⟨ho,hi⟩
  simp only at hi ho;subst hi;simp only[XW,Int.lt_irrefl,if_false];grind
theorem Zsj (a:ZG):∃ r,Vl a=some r/\r.length<=4:=by
 unfold Vl;repeat' split
 all_goals grind
theorem ZtS {b:Zd} (h:Xy b) {x:Zk} (hx:x∈Zf.Instances (Zd.Design b)) (f:Int):∃ r,Vm b x f=some r/\r.length<=32:=by
 obtain ⟨hc,⟨c,hc1,hc2⟩,_⟩:=h.ok.1.2.2.1 x hx;have hA:=(h.ok.1.1.2.1 c (List.mem_of_getElem? hc1)).2.2.1.1;unfold Vm;rw[QF hc.1 hc1,Bq];refine Zd4 (l:=Zn.Zay c) (λm v=>v.1.length<=4*m/\v.2.1=(m:Int)) _ ⟨by simp,rfl⟩ ?_ ?_
 ·rintro m y ⟨o,i,⟨⟩⟩ hy hm ⟨ho,hi⟩
  simp only at hi ho;subst hi;obtain ⟨ts,ht1,ht2⟩:=Zsj y;simp only[Qo,show (m:Int)<((Zn.Zay c).length:Int) from by omega,if_true,Zp,hy,ht1,Bq];obtain ⟨r,hr1,r',rfl,hr2⟩:=Zd4 (l:=ts) (ρ:=(List Zm×Int×Unit) ⊕ List Zm) (step:=λv=>XB f (m:Int) y ts v.1 v.2.1) (v:=(o,(0:Int),())) (λn v=>v.1.length=o.length+n/\v.2.1=(n:Int)) (λr=>∃ r',r=.inl r'/\r'.1.length<=4*(m+1)/\r'.2.1=((m+1:Nat):Int)) ⟨rfl,rfl⟩
   (by
    rintro n z ⟨o2,i,⟨⟩⟩ hz hn ⟨ho2,hi⟩;simp only at hi ho2;subst hi;simp only[XB,show (n:Int)<(ts.length:Int) from by omega,if_true,Zp,hz,Bq];rw[Zh (by simp;omega)];exact ⟨_,rfl,by simp[ho2];omega,by rw[Xm (by omega)]⟩)
   (by
    rintro ⟨o2,i,⟨⟩⟩ ⟨ho2,hi⟩;simp only at hi ho2;subst hi;simp only[XB,Int.lt_irrefl,if_false];exact ⟨_,rfl,_,rfl,by simp only;omega,by rw[Xm (by omega)]⟩)
  grind
 ·rintro ⟨o,i,⟨⟩⟩ ⟨ho,hi⟩
  simp only at hi ho;subst hi;simp only[Qo,Int.lt_irrefl,if_false];grind
def Short (l:List (List Int)) (n m:Nat):Prop:=l.length=n/\∀ x∈l,x.length<=m
theorem Short.set {l:List (List Int)} {n m:Nat} (h:Short l n m) {x:List Int} (hx:x.length<=m) (i:Nat):Short (l.set i x) n m:=by
 refine ⟨by simp[h.1],λy hy=>?_⟩;rcases List.mem_or_eq_of_mem_set hy with hy | rfl
 ·exact h.2 y hy
 ·exact hx
theorem Short.mono {l:List (List Int)} {n m p:Nat} (h:Short l n m) (hp:m<=p):Short l n p:=⟨h.1,λx hx=>Nat.le_trans (h.2 x hx) hp⟩
theorem ZwU {b:Zd} (h:Xy b):∃ v,VQ b=some v/\ZF.ZC v=ZC (Zd.Design b)/\ZF.Block v=b:=by
 have hD:=h.ok.1;have hf:=hD.few;have hpl:=XE hf;have h14:=hf.insts;have hwn:=h.ok.2.1;have h30:=hD.2.1.2.1;unfold VQ;rw[X6 _ hf,Bq];refine Zd4 (l:=Zf.Instances (Zd.Design b)) (λk v=>v.2.1=(k:Int)/\v.2.2.1.length<=32*k) _ ⟨rfl,by simp⟩ ?_ ?_
 ·rintro k x ⟨n,i,c,⟨⟩⟩ hx hk ⟨hi,hc⟩
  simp only at hi hc;subst hi;obtain ⟨r,hr1,hr2⟩:=ZtS h (List.mem_of_getElem? hx) n;simp only[Zab,show (k:Int)<((Zf.Instances (Zd.Design b)).length:Int) from by omega,if_true,Zp,hx,hr1,Bq,ZaH];rw[Zh (by omega)];exact ⟨_,rfl,by simp only;rw[Xm (by omega)],by grind⟩
 ·rintro ⟨n,i,c0,⟨⟩⟩ ⟨hi,hc0⟩
  simp only at hi hc0;subst hi;simp only[Zab,Int.lt_irrefl,if_false];rw[Zh (by omega),Zh (by omega),Zh (by omega),Zh (by omega),Zh (by omega)];obtain ⟨r,hr1,r',rfl,hr2⟩:=Zd4 (l:=ZC (Zd.Design b)) (ρ:=(Int×Int×List Zm×Unit) ⊕ ZF) (step:=λv=>Q7 b (ZC (Zd.Design b)) c0 v.1 v.2.1 v.2.2.1) (v:=((0:Int),List.replicate (Int.toNat (↑(List.length (Zd.Xo b)):Int)) (0:Int),List.replicate (Int.toNat (↑(List.length (Zd.Xo b)):Int)) (([]:List Int)),()))
   (λk v=>v.1=(k:Int)/\v.2.1.length=(Zd.Xo b).length/\Short v.2.2.1 (Zd.Xo b).length k)
   (λr=>∃ r',r=.inr r'/\ZF.ZC r'=ZC (Zd.Design b)/\ZF.Block r'=b)
   ⟨rfl,by simp,by simp,by
    grind⟩
   (by
    rintro k x ⟨i,l0,l1,⟨⟩⟩ hx hk ⟨hi,h0,h1⟩;simp only at hi h0 h1;subst hi;have hn:=ZrU hD (List.mem_of_getElem? hx);have hn1:=hn.2;simp only[Q7,show (k:Int)<((ZC (Zd.Design b)).length:Int) from by omega,if_true,Zp,hx,Bq];obtain ⟨q,hq1,_⟩:=Zgi (l:=l0) hn.1 (by omega);obtain ⟨p,hp1,hp2⟩:=Zgi (l:=l1) hn.1 (by have:=h1.1;omega);have hp3:=h1.2 p hp2;split
    ·rw[show atI l0 (Xb.net x)=some q from hq1,Bq]
     exact ⟨_,rfl,by simp only;rw[Xm (by omega)],by simp[h0],h1.mono (by omega)⟩
    ·rw[show atI l1 (Xb.net x)=some p from hp1,Bq,Zh (by simp;omega)]
     exact ⟨_,rfl,by simp only;rw[Xm (by omega)],h0,(h1.mono (by omega)).set (by simp;omega) _⟩)
   (by
    rintro ⟨i,l0,l1,⟨⟩⟩ ⟨hi,h0,h1⟩;simp only at hi h0 h1;subst hi;simp only[Q7,Int.lt_irrefl,if_false];obtain ⟨r,hr1,r',rfl,hr2⟩:=Zd4 (l:=Zd.Xo b) (ρ:=(Int×List Int×List (List Int)×Unit) ⊕ ((Int×Int×List Zm×Unit) ⊕ ZF)) (step:=λv=>Q6 b (ZC (Zd.Design b)) l0 v.1 v.2.1 v.2.2.1 v.2.2.2.1 v.2.2.2.2.1) (v:=((0:Int),([]:List Int),([]:List (List Int)),c0,l1,()))
     (λk v=>v.1=(k:Int)/\v.2.1.length=k/\v.2.2.1.length=k/\v.2.2.2.1.length<=448+156*k/\Short v.2.2.2.2.1 (Zd.Xo b).length 78)
     (λr=>∃ r',r=.inr (.inr r')/\ZF.ZC r'=ZC (Zd.Design b)/\ZF.Block r'=b)
     ⟨rfl,rfl,rfl,by simp only;omega,h1.mono (by omega)⟩
     (by
      rintro k w ⟨i,c1,c2,c3,l2,⟨⟩⟩ hw hk ⟨hi,g1,g2,g3,g4⟩;simp only at hi g1 g2 g3 g4;subst hi;obtain ⟨nl,hnl,hnl2⟩:=ZjO h hw;obtain ⟨ed,hed,hed2⟩:=Zk4 h hw;have hpar:=(h.ok.2.2 k w hw).1.1;have hn0:atI nl (0:Int)=some nl[0]:=(show nl[0]?=some nl[0] from List.getElem?_eq_getElem (by omega));obtain ⟨x1,hl2⟩:∃ x1,l2[k]?=some x1:=⟨_,List.getElem?_eq_getElem (by have:=g4.1;omega)⟩;have hx1:=g4.2 x1 (List.mem_of_getElem? hl2);simp only[Q6,show (k:Int)<((Zd.Xo b).length:Int) from by omega,if_true,hnl,hn0,hed,Bq,Zp,hl2];rw[Zh (by simp;omega),Zh (by simp;omega)];obtain ⟨r,hr1,r',rfl,hr2⟩:=Zd4 (l:=x1) (ρ:=(Int×List Int×List (List Int)×List Zm×List (List Int)×Unit) ⊕ ((Int×List Int×List (List Int)×Unit) ⊕ ((Int×Int×List Zm×Unit) ⊕ ZF))) (step:=λv=>Q5 l0 (k:Int) c1 c2 l2 nl[0] ed x1 v.1 v.2.1) (v:=((0:Int),c3,()))
       (λm v=>v.1=(m:Int)/\v.2.1.length=c3.length+2*m)
       (λr=>∃ r',r=.inl r'/\r'.1=((k+1:Nat):Int)/\r'.2.1.length=k+1/\r'.2.2.1.length=k+1/\r'.2.2.2.1.length<=448+156*(k+1)/\Short r'.2.2.2.2.1 (Zd.Xo b).length 78)
       ⟨rfl,rfl⟩
       (by
        rintro m y ⟨i,c4,⟨⟩⟩ hy hm ⟨hi,gc⟩;simp only at hi gc;subst hi;simp only[Q5,show (m:Int)<(x1.length:Int) from by omega,if_true,Zp,hy,Bq];have hl0:l0[k]?=some l0[k]:=List.getElem?_eq_getElem (by omega);generalize l0[k]=z at hl0;obtain ⟨r,hr1,r',rfl,hr2⟩:=Zar (step:=λv=>Qt l0 (k:Int) (m:Int) y v.1 v.2.1) 2 (λj v=>v.1=(j:Int)/\v.2.1.length=c4.length+j) (λr=>∃ r',r=.inl r'/\r'.1=((m+1:Nat):Int)/\r'.2.1.length=c4.length+2) (v:=((0:Int),c4,())) ⟨rfl,rfl⟩
         (by
          rintro j ⟨i,c5,⟨⟩⟩ hj ⟨hi,hc5⟩;simp only at hi hc5;subst hi;left;simp only[Qt,show (j:Int)<(2:Int) from by omega,if_true,Zp,hl0,Bq];rw[Zh (by simp;omega)];exact ⟨_,rfl,by simp only;rw[Xm (by omega)],by simp[hc5];omega⟩)
         (by
          rintro ⟨i,c5,⟨⟩⟩ ⟨hi,hc5⟩;simp only at hi hc5;subst hi;simp only[Qt,show ¬((2:Nat):Int)<(2:Int) from by omega,if_false];exact ⟨_,rfl,_,rfl,by simp only;rw[Xm (by omega)],hc5⟩)
        grind)
       (by
        rintro ⟨i,c4,⟨⟩⟩ ⟨hi,gc⟩;simp only at hi gc;subst hi;simp only[Q5,Int.lt_irrefl,if_false];exact ⟨_,rfl,_,rfl,by simp only;rw[Xm (by omega)],by simp[g1],by simp[g2],by simp only;omega,g4.set hx1 _⟩)
      grind)
     (by
      rintro ⟨i,c1,c2,c3,l2,⟨⟩⟩ ⟨hi,g1,g2,g3,g4⟩;simp only at hi;subst hi;simp only[Q6,Int.lt_irrefl,if_false];grind)
    grind)
  grind
end Go.Proofs.YtpkjbcbepmpddaaGreatDoor
