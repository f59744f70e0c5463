/-
  Ground of the plain laws: loops by what they come to; small arithmetic.
-/
import Derived.Test.YtioiomifapgimaaGreatDoorE1
import Derived.IntWalk
import Derived.Test.YtioiomifapgimaaGreatDoorM
namespace Go.Proofs.YtioiomifapgimaaGreatDoor
set_option linter.unusedVariables false
set_option linter.unusedSimpArgs false
open Go Go.Sx
theorem XG {n:Int} (h1:-9223372036854775808<=n) (h2:n<=9223372036854775807):Wq n=n:=IntWalk.i64_in n ⟨h1,h2⟩
theorem Zo {α:Type} (l:List α) (k:Nat):atI l (k:Int)=l[k]?:=by simp[atI]
theorem ZcU {α:Type} {l:List α} {i:Int} {x:α} (h0:0<=i) (hx:l[i.toNat]?=some x):atI l i=some x:=by simp[atI,h0,hx]
theorem Zq2 {α:Type} {l:List α} {i:Int} (h0:0<=i) (h1:i<l.length):∃ x,atI l i=some x/\l[i.toNat]?=some x :=
 ⟨l[i.toNat]'(by omega),by simp[atI,h0],List.getElem?_eq_getElem _⟩
theorem Zh {α:Type} {p:Prop} (h:p) (a:Option α):Zu p a=a:=by
 unfold Zu;exact if_pos h
theorem Xa {τ ρ:Type} {step:τ->Option (τ ⊕ ρ)} (n:Nat) (I:Nat->τ->Prop) (Q:ρ->Prop) {v:τ} (h0:I 0 v)
  (hs:∀ k v,k<n->I k v->(∃ v',step v=some (.inl v')/\I (k+1) v')\/∃ r,step v=some (.inr r)/\Q r)
  (hx:∀ v,I n v->∃ r,step v=some (.inr r)/\Q r):∃ r,Zn step v=some r/\Q r:=by
 have:∀ m k v,k+m=n->I k v->∃ r,Zn step v=some r/\Q r:=by
  intro m;induction m with
  | zero =>
   intro k v hk hI;have:k=n:=by omega
   subst this;obtain ⟨r,e,hq⟩:=hx v hI;exact ⟨r,Zfl e,hq⟩
  | succ m ih =>
   intro k v hk hI;rcases hs k v (by omega) hI with ⟨v',e,hI'⟩ | ⟨r,e,hq⟩
   ·obtain ⟨r,h1,h2⟩:=ih (k+1) v' (by omega) hI'
    exact ⟨r,by rw[Zp1 e];exact h1,h2⟩
   ·exact ⟨r,Zfl e,hq⟩
 exact this n 0 v (by omega) h0
theorem Ya {τ ρ:Type} {step:τ->Option (τ ⊕ ρ)} (n:Nat) (I:Nat->τ->Prop) (R:ρ) {v:τ} (h0:I 0 v)
  (hs:∀ k v,k<n->I k v->(∃ v',step v=some (.inl v')/\I (k+1) v')\/step v=some (.inr R))
  (hx:∀ v,I n v->step v=some (.inr R)):Zn step v=some R:=by
 obtain ⟨r,h1,h2⟩:=Xa n I (λr=>r=R) h0 (λk v hk hI=>(hs k v hk hI).elim .inl (λh=>.inr ⟨R,h,rfl⟩)) (λv hI=>⟨R,hx v hI,rfl⟩);rw[h1,h2]
theorem ZmY {σ ρ:Type} {step:σ->Option (σ ⊕ ρ)} (I:σ->Prop) (μ:σ->Nat) (R:ρ) {v:σ} (h0:I v)
  (hs:∀ v,I v->(∃ v',step v=some (.inl v')/\I v'/\μ v'<μ v)\/step v=some (.inr R)):Zn step v=some R:=by
 obtain ⟨r,h1,h2⟩:=VR I μ (λr=>r=R) h0 (λv hI=>(hs v hI).elim .inl (λh=>.inr ⟨R,h,rfl⟩));rw[h1,h2]
theorem Yp {α:Type} {l:List α} {k:Nat} {x:α} (hx:l[k]?=some x):l.take (k+1)=l.take k++[x]:=by
 rw[List.take_add_one,hx];rfl
theorem ZqF {ρ:Type} {g:Nat->Option ρ} {v:ρ} (h:∃ n,g n=some v) (hd:∀ n r,g n=some r->r=v):Zxi g=some v:=by
 obtain ⟨n,hn⟩:=h;unfold Zxi;have hx:∃ r n,g n=some r:=⟨v,n,hn⟩;grind
def sm:(t:Ty)->t.den->Prop
 | .str,s=>(s.length:Int)<=1048576
 | .sl t,l=>(l.length:Int)<=1048576/\∀ x∈l,sm t x
 | .pair a b,d=>sm a d.1/\sm b d.2
 | _,_=>True
noncomputable def tr (p:Prop):Bool:=@decide p (Classical.propDecidable p)
theorem Znz {p:Prop} {b:Bool} (h:b=true<->p):tr p=b:=by
 unfold tr;grind
theorem Xn (p:Prop):tr p=true<->p:=by simp[tr]
theorem Yt {p:Prop} (h:p):tr p=true:=(Xn p).2 h
theorem Yl {p:Prop} (h:¬p):tr p=false:=by simp[tr,h]
def Len {α:Type} (l:List α):Prop:=l.length<=4611686018427387904
theorem Zwc {k:Nat} {α:Type} {l:List α} (hl:Len l) (hk:k<=l.length):Wq ((k:Int)+1)=((k+1:Nat):Int):=by
 have:l.length<=4611686018427387904:=hl;rw[XG (by omega) (by omega)];simp
def XI {α:Type} (p:α->Bool) (l:List α):Int:=match l.findIdx? p with
 | some i=>i
 | none=>-1
theorem Zae {α:Type} {p:α->Bool} {l:List α}:0<=XI p l<->l.any p=true:=by
 unfold XI;grind
theorem Zam {α ρ:Type} {l:List α} (hl:Len l) {p:α->Bool} {step:Int×Unit->Option ((Int×Unit) ⊕ ρ)} {out:Int->ρ}
  (hs:∀ (k:Nat) (x:α),l[k]?=some x->step ((k:Int),())=some (if p x=true then .inr (out k) else .inl (Wq ((k:Int)+1),())))
  (hx:step ((l.length:Int),())=some (.inr (out (-1)))):Zn step (0,())=some (out (XI p l)):=by
 refine Ya l.length (λk v=>v.1=(k:Int)/\∀ x∈l.take k,p x=false) _ ⟨rfl,by simp⟩ ?_ ?_
 ·rintro k ⟨i,⟨⟩⟩ hk ⟨hi,hS⟩
  simp only at hi;subst hi;have hx:l[k]?=some l[k]:=List.getElem?_eq_getElem hk;rw[hs k _ hx,Zwc hl (by omega)];split
  ·rename_i hp
   right;have:l.findIdx? p=some k:=by
    rw[List.findIdx?_eq_some_iff_getElem];refine ⟨hk,hp,λj hj=>?_⟩;have:=hS l[j] (List.mem_iff_getElem?.2 ⟨j,by grind⟩);simp[this]
   unfold XI;rw[this]
  ·rename_i hp
   refine .inl ⟨_,rfl,rfl,?_⟩;rw[Yp hx];grind
 ·rintro ⟨i,⟨⟩⟩ ⟨hi,hS⟩
  simp only at hi;subst hi;rw[List.take_length] at hS;have:l.findIdx? p=none:=List.findIdx?_eq_none_iff.2 hS;rw[hx];unfold XI;rw[this]
noncomputable def sel {ρ:Type} (P:Prop) (a b:ρ):ρ:=match tr P with
 | true=>a
 | false=>b
theorem X9 {ρ:Type} {P:Prop} (h:P) (a b:ρ):sel P a b=a:=by simp[sel,Yt h]
theorem Xy {ρ:Type} {P:Prop} (h:¬P) (a b:ρ):sel P a b=b:=by simp[sel,Yl h]
theorem ZmA (P:Prop):sel P true false=tr P:=by
 by_cases h:P
 ·rw[X9 h,Yt h]
 ·rw[Xy h,Yl h]
def Ze6 {α:Type} (l:List α) (P:Nat->α->Prop):Prop:=∀ (k:Nat) (x:α),l[k]?=some x->P k x
theorem Je {α ρ:Type} {l:List α} (hl:Len l) (P:Nat->α->Prop) {step:Int×Unit->Option ((Int×Unit) ⊕ ρ)} {bad good:ρ}
  (hs:∀ (k:Nat) (x:α),l[k]?=some x->k<l.length->(∀ (j:Nat) (y:α),j<k->l[j]?=some y->P j y)->(P k x->step ((k:Int),())=some (.inl (Wq ((k:Int)+1),())))/\(¬P k x->step ((k:Int),())=some (.inr bad)))
  (hx:Ze6 l P->step ((l.length:Int),())=some (.inr good)):Zn step (0,())=some (sel (Ze6 l P) good bad):=by
 refine Ya l.length (λk v=>v.1=(k:Int)/\∀ (j:Nat) (y:α),j<k->l[j]?=some y->P j y) _ ⟨rfl,λj y hj=>by omega⟩ ?_ ?_
 ·rintro k ⟨i,⟨⟩⟩ hk ⟨hi,hS⟩
  simp only at hi;subst hi;have hx:l[k]?=some l[k]:=List.getElem?_eq_getElem hk;obtain ⟨h1,h2⟩:=hs k _ hx hk hS;by_cases hP:P k l[k]
  ·rw[h1 hP,Zwc hl (by omega)]
   grind
  ·right
   rw[h2 hP,Xy (λh=>hP (h k _ hx))]
 ·rintro ⟨i,⟨⟩⟩ ⟨hi,hS⟩
  simp only at hi;subst hi;have hA:Ze6 l P:=λk x hk=>hS k x (List.getElem?_eq_some_iff.1 hk).1 hk;rw[hx hA,X9 hA]
theorem ZrE {ρ:Type} (m n:Nat) (hmn:m<=n) (hn:n<=4611686018427387904) (P:Nat->Prop) {step:Int×Unit->Option ((Int×Unit) ⊕ ρ)} {bad good:ρ}
  (hs:∀ k:Nat,m<=k->k<n->(∀ j,m<=j->j<k->P j)->(P k->step ((k:Int),())=some (.inl (Wq ((k:Int)+1),())))/\(¬P k->step ((k:Int),())=some (.inr bad)))
  (hx:(∀ j,m<=j->j<n->P j)->step ((n:Int),())=some (.inr good)):Zn step ((m:Int),())=some (sel (∀ j,m<=j->j<n->P j) good bad):=by
 refine Ya (n-m) (λk v=>v.1=((m+k:Nat):Int)/\∀ j,m<=j->j<m+k->P j) _ ⟨by simp,λj h1 h2=>by omega⟩ ?_ ?_
 ·rintro k ⟨i,⟨⟩⟩ hk ⟨hi,hS⟩
  simp only at hi;subst hi;obtain ⟨h1,h2⟩:=hs (m+k) (by omega) (by omega) hS;by_cases hP:P (m+k)
  ·rw[h1 hP,XG (by omega) (by omega)]
   grind
  ·right
   rw[h2 hP,Xy (λh=>hP (h (m+k) (by omega) (by omega)))]
 ·rintro ⟨i,⟨⟩⟩ ⟨hi,hS⟩
  simp only at hi;subst hi;have e:m+(n-m)=n:=by omega
  rw[e] at hS ⊢;rw[hx hS,X9 hS]
theorem cross {α:Type} {R:α->α->Prop} (tr:∀ x y z,R x y->R y z->R x z) {a b:List α} (ha:a.Pairwise R) (hb:b.Pairwise R)
  (h:∀ x y,a.getLast?=some x->b.head?=some y->R x y):∀ x∈a,∀ y∈b,R x y:=by
 intro x hx y hy;rcases List.eq_nil_or_concat a with rfl | ⟨a',x0,rfl⟩
 ·cases hx
 rw[List.concat_eq_append] at ha hx h;cases b with
 | nil=>cases hy
 | cons y0 b' =>
  have h0:R x0 y0:=h x0 y0 (by simp) rfl;have h1:R x y0:=by
   rcases List.mem_append.1 hx with q | q
   ·exact tr _ _ _ ((List.pairwise_append.1 ha).2.2 x q x0 (by simp)) h0
   ·rw[List.mem_singleton.1 q];exact h0
  rcases List.mem_cons.1 hy with rfl | q
  ·exact h1
  ·exact tr _ _ _ h1 ((List.pairwise_cons.1 hb).1 y q)
theorem Zpy {α:Type} {R:α->α->Prop} {u1 u2 v1 v2 w1 w2:List α} (hu:(u1++u2).Pairwise R) (hv:(v1++v2).Pairwise R)
  (h12:∀ x∈u1,∀ y∈v2,R x y) (h21:∀ y∈v1,∀ x∈u2,R y x) (p1:w1.Perm (u1++v1)) (s1:w1.Pairwise R) (p2:w2.Perm (u2++v2)) (s2:w2.Pairwise R) :
  (w1++w2).Pairwise R/\(w1++w2).Perm (u1++u2++(v1++v2)):=by
 have hu':=(List.pairwise_append.1 hu).2.2;have hv':=(List.pairwise_append.1 hv).2.2;refine ⟨List.pairwise_append.2 ⟨s1,s2,λx hx y hy=>?_⟩,?_⟩
 ·rcases List.mem_append.1 (p1.mem_iff.1 hx) with q | q<;>rcases List.mem_append.1 (p2.mem_iff.1 hy) with q2 | q2
  ·exact hu' x q y q2
  ·exact h12 x q y q2
  ·exact h21 x q y q2
  ·exact hv' x q y q2
 ·refine (p1.append p2).trans ?_
  rw[List.append_assoc,List.append_assoc];refine List.Perm.append_left u1 ?_;rw[<-List.append_assoc,<-List.append_assoc];exact (List.perm_append_comm).append_right v2
theorem Ze8 {α:Type} (p:List α) (c:α) (q:List α) {k:Nat} (hk:k=p.length):(p++c::q)[k]?=some c:=by subst hk;simp
theorem Zuo {α:Type} (p:List α) (c d:α) (q:List α) {k:Nat} (hk:k=p.length):(p++c::q).set k d=p++d::q:=by subst hk;simp
theorem ZvZ {α:Type} (p:List α) (c:α) (q:List α) (d:α) (r:List α) {i j:Nat} (hi:i=p.length) (hj:j=p.length+1+q.length) :
  (p++c::(q++d::r))[i]?=some c/\(p++c::(q++d::r))[j]?=some d/\((p++c::(q++d::r)).set i d)[j]?=some d/\((p++c::(q++d::r)).set j c)[i]?=some c/\
  ((p++c::(q++d::r)).set i d).set j c=p++d::(q++c::r)/\((p++c::(q++d::r)).set j c).set i d=p++d::(q++c::r):=by
 have e:∀ (y z:α),p++y::(q++z::r)=(p++y::q)++z::r:=λy z=>by simp
 have hl:∀ y:α,(p++y::q).length=j:=λy=>by rw[hj,List.length_append,List.length_cons];omega
 have a1:∀ y z:α,(p++y::(q++z::r))[i]?=some y:=λy z=>Ze8 p y _ hi;have a2:∀ y z:α,(p++y::(q++z::r))[j]?=some z:=λy z=>by rw[e];exact Ze8 _ z _ (hl y).symm
 have s1:∀ x y z:α,(p++y::(q++z::r)).set i x=p++x::(q++z::r):=λx y z=>Zuo p y x _ hi;have s2:∀ x y z:α,(p++y::(q++z::r)).set j x=p++y::(q++x::r):=λx y z=>by rw[e,e,Zuo _ z x _ (hl y).symm]
 exact ⟨a1 c d,a2 c d,by rw[s1];exact a2 d d,by rw[s2];exact a1 c c,by rw[s1,s2],by rw[s2,s1]⟩
abbrev NS:=Zj
theorem Zxt (x s z t y:List NS) (hl:t.length=s.length) (hn:(x++s++z++t++y).length<=1048576) {a b n:Int} (ha:a=(x.length:Int)) (hb:b=((x.length+s.length+z.length:Nat):Int)) (hk:n=(s.length:Int)) :
  ZC (x++s++z++t++y) a b n ()=some (x++t++z++s++y):=by
 subst ha;subst hb;subst hk;simp only[List.length_append] at hn;unfold ZC;refine Ya s.length (λk v=>v.1=(k:Int)/\∃ s1 s2 t1 t2,s=s1++s2/\t=t1++t2/\s1.length=k/\t1.length=k/\v.2.1=x++t1++s2++z++s1++t2++y) _
  ⟨rfl,[],s,[],t,rfl,rfl,rfl,rfl,by simp⟩ ?_ ?_
 ·rintro k ⟨i,L,⟨⟩⟩ hk ⟨hi,s1,s2,t1,t2,rfl,rfl,h1,h2,hL⟩
  simp only at hi hL;subst hi;subst hL;simp only[List.length_append] at hk hl hn;obtain ⟨c,s2,rfl⟩:∃ c s',s2=c::s':=List.exists_cons_of_ne_nil (λe=>by rw[e] at hk;simp at hk;omega);obtain ⟨d,t2,rfl⟩:∃ c s',t2=c::s':=List.exists_cons_of_ne_nil (λe=>by rw[e] at hl;simp at hl;omega);simp only[List.length_cons] at hk hl hn;have e:x++t1++c::s2++z++s1++d::t2++y=(x++t1)++c::((s2++z++s1)++d::(t2++y)):=by simp
  obtain ⟨q1,q2,q3,_,q5,_⟩:=ZvZ (x++t1) c (s2++z++s1) d (t2++y) (i:=x.length+k) (j:=x.length+(s1++c::s2).length+z.length+k)
   (by rw[List.length_append];omega) (by simp only[List.length_append,List.length_cons];omega)
  have w1:Wq (((x.length:Nat):Int)+(k:Int))=((x.length+k:Nat):Int):=by rw[XG (by omega) (by omega)];omega
  have w2:Wq (((x.length+(s1++c::s2).length+z.length:Nat):Int)+(k:Int))=((x.length+(s1++c::s2).length+z.length+k:Nat):Int):=by
   rw[XG (by omega) (by simp only[List.length_append,List.length_cons];omega)];omega
  have w3:Wq ((k:Int)+1)=((k+1:Nat):Int):=by rw[XG (by omega) (by omega)];omega
  left;refine ⟨(((k+1:Nat):Int),(x++t1)++d::((s2++z++s1)++c::(t2++y)),()),?_,rfl,s1++[c],s2,t1++[d],t2,by simp,by simp,by simp[h1],by simp[h2],by simp⟩;dsimp only;unfold Ye;rw[e,if_pos (by simp only[List.length_append,List.length_cons];omega),w1,w2,w3,Zo,q2,Bq,Zo,q1,Bq,Int.toNat_natCast,Zo,q3,Bq,Int.toNat_natCast,q5]
 ·rintro ⟨i,L,⟨⟩⟩ ⟨hi,s1,s2,t1,t2,rfl,rfl,h1,h2,hL⟩
  simp only at hi hL;subst hi;subst hL;simp only[List.length_append] at h1 hl h2;have e1:s2=[]:=List.length_eq_zero_iff.1 (by omega);have e2:t2=[]:=List.length_eq_zero_iff.1 (by omega);subst e1;subst e2;dsimp only;unfold Ye;rw[if_neg (by omega)];simp
theorem ZyL (x u v y:List NS) (hu:u≠[]) (hv:v≠[]) (hn:(x++u++v++y).length<=1048576) {a m b:Int} (ha:a=(x.length:Int)) (hm:m=((x.length+u.length:Nat):Int)) (hb:b=((x.length+u.length+v.length:Nat):Int)) :
  ZB (x++u++v++y) a m b ()=some (x++v++u++y):=by
 have hu0:=List.length_pos_iff.2 hu;have hv0:=List.length_pos_iff.2 hv;subst ha;subst hm;subst hb;simp only[List.length_append] at hn;unfold ZB;have w1:Wq (((x.length+u.length:Nat):Int)-((x.length:Nat):Int))=(u.length:Int):=by rw[XG (by omega) (by omega)];omega
 have w2:Wq (((x.length+u.length+v.length:Nat):Int)-((x.length+u.length:Nat):Int))=(v.length:Int):=by rw[XG (by omega) (by omega)];omega
 rw[w1,w2];generalize hM:x.length+u.length=M;generalize hR:x++v++u++y=R;have hLen:(x++u++v++y).length=R.length:=by rw[<-hR];simp only[List.length_append];omega
 have hRl:R.length<=1048576:=by rw[<-hLen];simp only[List.length_append];omega
 refine ZmY (λs=>∃ x' u' v' y':List NS,s.1=(u'.length:Int)/\s.2.1=(v'.length:Int)/\0<u'.length/\0<v'.length/\x'.length+u'.length=M/\s.2.2.1=x'++u'++v'++y'/\x'++v'++u'++y'=R)
  (λs=>s.1.toNat+s.2.1.toNat) R ⟨x,u,v,y,rfl,rfl,hu0,hv0,hM,rfl,hR⟩ ?_
 rintro ⟨i,j,L,⟨⟩⟩ ⟨x',u',v',y',hi,hj,h1,h2,h3,hL,hR'⟩;simp only at hi hj hL;subst hi;subst hj;subst hL;subst h3;have hb:x'.length+u'.length+v'.length+y'.length<=1048576:=by
  have:=congrArg List.length hR';simp only[List.length_append] at this;omega
 dsimp only;unfold YP;have w3:Wq (((x'.length+u'.length:Nat):Int)-(u'.length:Int))=(x'.length:Int):=by rw[XG (by omega) (by omega)];omega
 rw[w3];by_cases c:((u'.length:Nat):Int)=((v'.length:Nat):Int)
 ·right
  have:=Zxt x' u' [] v' y' (by omega) (by simp only[List.length_append,List.length_nil];omega) (a:=(x'.length:Int)) (b:=((x'.length+u'.length:Nat):Int)) (n:=(u'.length:Int)) rfl (by simp) rfl;rw[if_pos c];simp only[List.append_nil] at this;rw[this,Bq,hR']
 ·left
  rw[if_neg c];by_cases c2:((v'.length:Nat):Int)<((u'.length:Nat):Int)
  ·rw[if_pos c2]
   have hs:u'=u'.take v'.length++u'.drop v'.length:=(List.take_append_drop _ _).symm;have l1:(u'.take v'.length).length=v'.length:=by rw[List.length_take];omega
   have l2:(u'.drop v'.length).length=u'.length-v'.length:=List.length_drop;generalize u'.take v'.length=u1 at hs l1;generalize u'.drop v'.length=u2 at hs l2;subst hs;simp only[List.length_append] at h1 c c2 l2 hb;have q:=Zxt x' u1 u2 v' y' (by omega) (by simp only[List.length_append];omega) (a:=(x'.length:Int)) (b:=((x'.length+(u1++u2).length:Nat):Int)) (n:=(v'.length:Int)) rfl (by simp only[List.length_append];omega) (by omega);have e:x'++(u1++u2)++v'++y'=x'++u1++u2++v'++y':=by simp
   rw[e,q,Bq];refine ⟨_,rfl,⟨x'++v',u2,u1,y',?_,?_,by omega,by omega,?_,rfl,?_⟩,?_⟩
   ·show Wq (((u1++u2).length:Int)-(v'.length:Int))=_
    rw[XG (by rw[List.length_append];omega) (by rw[List.length_append];omega),List.length_append];omega
   ·show ((v'.length:Nat):Int)=_
    omega
   ·simp only[List.length_append];omega
   ·rw[<-hR'];simp
   ·dsimp only
    rw[XG (by rw[List.length_append];omega) (by rw[List.length_append];omega),List.length_append];omega
  ·rw[if_neg c2]
   have hs:v'=v'.take (v'.length-u'.length)++v'.drop (v'.length-u'.length):=(List.take_append_drop _ _).symm;have l1:(v'.take (v'.length-u'.length)).length=v'.length-u'.length:=by rw[List.length_take];omega
   have l2:(v'.drop (v'.length-u'.length)).length=u'.length:=by rw[List.length_drop];omega
   generalize v'.take (v'.length-u'.length)=v1 at hs l1;generalize v'.drop (v'.length-u'.length)=v2 at hs l2;subst hs;simp only[List.length_append] at h2 c c2 l1 hb;have w4:Wq (Wq (((x'.length+u'.length:Nat):Int)+(((v1++v2).length:Nat):Int))-((u'.length:Nat):Int))=((x'.length+u'.length+v1.length:Nat):Int):=by
    rw[List.length_append,XG (n:=((x'.length+u'.length:Nat):Int)+((v1.length+v2.length:Nat):Int)) (by omega) (by omega),XG (by omega) (by omega)];omega
   have q:=Zxt x' u' v1 v2 y' l2 (by simp only[List.length_append];omega) (a:=(x'.length:Int)) (b:=((x'.length+u'.length+v1.length:Nat):Int)) (n:=(u'.length:Int)) rfl rfl rfl;have e:x'++u'++(v1++v2)++y'=x'++u'++v1++v2++y':=by simp
   rw[w4,e,q,Bq];refine ⟨_,rfl,⟨x',v2,v1,u'++y',by dsimp only;omega,?_,by omega,by omega,by omega,by simp,?_⟩,?_⟩
   ·show Wq (((v1++v2).length:Int)-(u'.length:Int))=_
    rw[XG (by rw[List.length_append];omega) (by rw[List.length_append];omega),List.length_append];omega
   ·rw[<-hR'];simp
   ·dsimp only
    rw[XG (by rw[List.length_append];omega) (by rw[List.length_append];omega),List.length_append];omega
def RS (x y:NS):Prop:=Zj.Power y<Zj.Power x\/(Zj.Power x=Zj.Power y/\Zj.Net x<Zj.Net y)
theorem RS.trans {x y z:NS} (h1:RS x y) (h2:RS y z):RS x z:=by unfold RS at *;omega
def ltS (x y:NS):Bool:=decide (Zj.Power y<Zj.Power x)
theorem cmp_eq (x y:NS):∃ c,Xx x y=some c/\(c<0<->ltS x y=true):=by
 unfold Xx Zcz ZbM ltS;simp only[decide_true,Bool.not_true,Bq,Bool.false_eq_true,if_false];split
 ·exact ⟨-1,rfl,by simp;omega⟩
 ·split
  ·exact ⟨1,rfl,by simp;omega⟩
  ·exact ⟨0,rfl,by simp;omega⟩
theorem Zws {x y:NS} (h:Zj.Net y<Zj.Net x):(ltS x y=true->RS x y)/\(ltS x y=false->RS y x):=by
 unfold ltS RS;simp only[decide_eq_true_eq,decide_eq_false_iff_not];omega
theorem Zlh {α:Type} {l:List α} {x:α} (h:l.getLast?=some x):∃ l',l=l'++[x]:=by
 rcases List.eq_nil_or_concat l with rfl | ⟨l',y,rfl⟩
 ·cases h
 ·rw[List.concat_eq_append] at h ⊢
  simp only[List.getLast?_append,List.getLast?_singleton,Option.some_or,Option.some.injEq] at h;subst h;exact ⟨l',rfl⟩
theorem ZqN {α:Type} {l:List α} (h:0<l.length):∃ l' x,l=l'++[x]:=by
 rcases List.eq_nil_or_concat l with rfl | ⟨l',y,rfl⟩
 ·simp at h
 ·exact ⟨l',y,List.concat_eq_append⟩
theorem Zqc {α:Type} {l:List α} (h:0<l.length):∃ x l',l=x::l':=by
 cases l with
 | nil=>simp at h
 | cons x r=>exact ⟨x,r,rfl⟩
theorem ZhB {α:Type} {R:α->α->Prop} (tr:∀ x y z,R x y->R y z->R x z) {u1 u2:List α} {e:α} (h:(u1++u2).Pairwise R) (h1:∀ p,u1.getLast?=some p->R p e) (h2:∀ p,u2.head?=some p->R e p):(u1++e::u2).Pairwise R:=by
 obtain ⟨a1,a2,a3⟩:=List.pairwise_append.1 h;have b1:=cross tr a1 (List.pairwise_singleton R e) (λx y hx hy=>by simp at hy;subst hy;exact h1 x hx);have b2:=cross tr (List.pairwise_singleton R e) a2 (λx y hx hy=>by simp at hx;subst hx;exact h2 y hy);refine List.pairwise_append.2 ⟨a1,List.pairwise_cons.2 ⟨λy hy=>b2 e (by simp) y hy,a2⟩,λx hx y hy=>?_⟩;rcases List.mem_cons.1 hy with rfl | q
 ·exact b1 x hx _ (by simp)
 ·exact a3 x hx y q
theorem ZtG (x u:List NS) (e:NS) (r:List NS) (hn:(x++u++e::r).length<=1048576) (hs:u.Pairwise RS) (hN:∀ p∈u,Zj.Net p<Zj.Net e) {i0:Int} (hi0:i0=((x.length+u.length:Nat):Int)) :
  ∃ w,Zn (λv=>ZO (x.length:Int) i0 v.1 v.2.1) (i0,x++u++e::r,())=some (.inl (Wq (i0+1),x++w++r,()))/\w.Perm (u++[e])/\w.Pairwise RS:=by
 subst hi0;simp only[List.length_append,List.length_cons] at hn;have key:=VR (step:=λv=>ZO (x.length:Int) ((x.length+u.length:Nat):Int) v.1 v.2.1)
  (λs=>∃ u1 u2,u=u1++u2/\s.1=((x.length+u1.length:Nat):Int)/\s.2.1=x++u1++e::u2++r/\∀ p,u2.head?=some p->RS e p)
  (λs=>s.1.toNat) (λq=>∃ w,q=.inl (Wq (((x.length+u.length:Nat):Int)+1),x++w++r,())/\w.Perm (u++[e])/\w.Pairwise RS)
  (v:=(((x.length+u.length:Nat):Int),x++u++e::r,())) ⟨u,[],by simp,rfl,by simp,λp hp=>by cases hp⟩ ?_
 ·obtain ⟨q,h1,w,rfl,h2,h3⟩:=key
  exact ⟨w,h1,h2,h3⟩
 rintro ⟨j,L,⟨⟩⟩ ⟨u1,u2,rfl,hj,hL,h2⟩;simp only at hj hL;subst hj;subst hL;simp only[List.length_append] at hn;dsimp only;unfold ZO;have fin:∀ (hl:∀ p,u1.getLast?=some p->RS p e),(∃ w,(Sum.inl (Wq (((x.length+(u1++u2).length:Nat):Int)+1),x++u1++e::u2++r,()):(Int×List NS×Unit) ⊕ List NS)=.inl (Wq (((x.length+(u1++u2).length:Nat):Int)+1),x++w++r,())/\w.Perm (u1++u2++[e])/\w.Pairwise RS):=λhl =>
  ⟨u1++e::u2,by simp,by
   rw[List.append_assoc];exact List.Perm.append_left u1 (List.perm_append_singleton e u2).symm,ZhB (R:=RS) (λ_ _ _ a b=>RS.trans a b) hs hl h2⟩
 by_cases c:0<u1.length
 ·obtain ⟨u1,p,rfl⟩:=ZqN c
  simp only[List.length_append,List.length_cons,List.length_nil] at hn;have hx:x++(u1++[p])++e::u2++r=(x++u1)++p::([]++e::(u2++r)):=by simp
  obtain ⟨q1,q2,q3,q4,q5,q6⟩:=ZvZ (x++u1) p [] e (u2++r) (i:=x.length+u1.length) (j:=x.length+(u1++[p]).length) (by rw[List.length_append]) (by simp only[List.length_append,List.length_cons,List.length_nil];omega);have w1:Wq (((x.length+(u1++[p]).length:Nat):Int)-1)=((x.length+u1.length:Nat):Int):=by rw[List.length_append,List.length_singleton,XG (by omega) (by omega)];omega
  obtain ⟨k,hk,hk2⟩:=cmp_eq e p;have hNp:Zj.Net p<Zj.Net e:=hN p (by simp);rw[if_pos (by simp only[List.length_append,List.length_singleton];omega),hx,Zo,q2,Bq,w1,Zo,q1,Bq,hk,Bq];by_cases c2:k<0
  ·left
   rw[if_pos c2,Int.toNat_natCast,Zo,q4,Bq,Int.toNat_natCast,q6];refine ⟨_,rfl,⟨u1,p::u2,by simp,rfl,by simp,λp' hp'=>?_⟩,?_⟩
   ·simp at hp'
    subst hp';exact (Zws hNp).1 (hk2.1 c2)
   ·dsimp only
    simp only[List.length_append,List.length_singleton];omega
  ·right
   rw[if_neg c2,<-hx];refine ⟨_,rfl,fin λp' hp'=>?_⟩;simp at hp';subst hp';exact (Zws hNp).2 (by
    cases hq:ltS e p with
    | true=>exact absurd (hk2.2 hq) c2
    | false=>rfl)
 ·right
  have e1:u1=[]:=List.length_eq_zero_iff.1 (by omega);rw[if_neg (by omega)];refine ⟨_,rfl,fin λp' hp'=>?_⟩;rw[e1] at hp';cases hp'
theorem Zwq (x u y:List NS) (hn:(x++u++y).length<=1048576) (hN:u.Pairwise λp q=>Zj.Net p<Zj.Net q) {a b:Int} (ha:a=(x.length:Int)) (hb:b=((x.length+u.length:Nat):Int)) :
  ∃ w,ZI (x++u++y) a b ()=some (x++w++y)/\w.Perm u/\w.Pairwise RS:=by
 subst ha;subst hb;simp only[List.length_append] at hn;unfold ZI;have key:=VR (step:=λv=>ZP (x.length:Int) ((x.length+u.length:Nat):Int) v.1 v.2.1)
  (λs=>∃ u1 u2 w,u=u1++u2/\0<u1.length/\s.1=((x.length+u1.length:Nat):Int)/\s.2.1=x++w++u2++y/\w.Perm u1/\w.Pairwise RS)
  (λs=>x.length+u.length-s.1.toNat) (λq=>∃ w,q=x++w++y/\w.Perm u/\w.Pairwise RS)
  (v:=(Wq ((x.length:Int)+1),x++u++y,()))
 by_cases c:0<u.length
 ·obtain ⟨p,u',rfl⟩:=Zqc c
  simp only[List.length_cons] at hn;obtain ⟨q,h1,w,rfl,h2,h3⟩:=key ⟨[p],u',[p],rfl,by simp,by rw[XG (by omega) (by omega)];simp,by simp,List.Perm.refl _,List.pairwise_singleton _ _⟩ (by
   rintro ⟨i,L,⟨⟩⟩ ⟨u1,u2,w,hu,hu1,hi,hL,hw,hs⟩;simp only at hi hL;subst hi;subst hL;rw[hu] at hN ⊢;have hlen:=congrArg List.length hu;simp only[List.length_append,List.length_cons] at hlen;have hwl:=hw.length_eq;dsimp only;unfold ZP;by_cases c:0<u2.length
   ·obtain ⟨e,r,rfl⟩:=Zqc c
    simp only[List.length_cons] at hlen;have hx:x++w++e::r++y=x++w++e::(r++y):=by simp
    obtain ⟨w',h1,h2,h3⟩:=ZtG x w e (r++y) (by simp only[List.length_append,List.length_cons];omega) hs (λp hp=>(List.pairwise_append.1 hN).2.2 p (hw.mem_iff.1 hp) e (by simp)) (i0:=((x.length+u1.length:Nat):Int)) (by rw[hwl]);left;rw[if_pos (by simp only[List.length_append,List.length_cons];omega),hx,h1];have w1:Wq (((x.length+u1.length:Nat):Int)+1)=((x.length+(u1++[e]).length:Nat):Int):=by rw[List.length_append,List.length_singleton,XG (by omega) (by omega)];omega
    refine ⟨_,rfl,⟨u1++[e],r,w',by simp,by simp,w1,by simp,?_,h3⟩,?_⟩
    ·exact h2.trans (hw.append_right [e])
    ·dsimp only
     rw[w1];simp only[List.length_append,List.length_cons,List.length_nil,List.length_singleton];omega
   ·right
    have e2:u2=[]:=List.length_eq_zero_iff.1 (by omega);subst e2;rw[if_neg (by simp)];exact ⟨_,rfl,w,by simp,by simpa using hw,hs⟩)
  exact ⟨w,h1,h2,h3⟩
 ·have e:u=[]:=List.length_eq_zero_iff.1 (by omega)
  subst e;refine ⟨[],?_,List.Perm.refl _,List.Pairwise.nil⟩;refine Zfl ?_;dsimp only;unfold ZP;rw[if_neg (by rw[XG (by omega) (by omega)];simp;omega)]
theorem bsearch {ρ:Type} {step:Int×Int×Unit->Option ((Int×Int×Unit) ⊕ ρ)} (f:Nat->Bool) {lo hi:Nat} (h:lo<=hi) {Q:ρ->Prop}
  (hs:∀ i j:Nat,lo<=i->i<j->j<=hi->step ((i:Int),(j:Int),())=some (.inl (if f ((i+j) / 2)=true then ((((i+j) / 2+1:Nat):Int),(j:Int),()) else ((i:Int),(((i+j) / 2:Nat):Int),()))))
  (hx:∀ s:Nat,lo<=s->s<=hi->(lo<s->f (s-1)=true)->(s<hi->f s=false)->∃ r,step ((s:Int),(s:Int),())=some (.inr r)/\Q r) :
  ∃ r,Zn step ((lo:Int),(hi:Int),())=some r/\Q r:=by
 refine VR (λv=>∃ i j:Nat,v=((i:Int),(j:Int),())/\lo<=i/\i<=j/\j<=hi/\(lo<i->f (i-1)=true)/\(j<hi->f j=false)) (λv=>v.2.1.toNat-v.1.toNat) Q ⟨lo,hi,rfl,Nat.le_refl _,h,Nat.le_refl _,λh=>by omega,λh=>by omega⟩ ?_;rintro _ ⟨i,j,rfl,h1,h2,h3,h4,h5⟩;by_cases c:i<j
 ·left
  rw[hs i j h1 c h3];refine ⟨_,rfl,?_⟩;cases hf:f ((i+j) / 2) with
  | true =>
   rw[if_pos rfl];exact ⟨⟨(i+j) / 2+1,j,rfl,by omega,by omega,h3,λ_=>by simpa using hf,h5⟩,by dsimp only;omega⟩
  | false =>
   rw[if_neg (by simp)];exact ⟨⟨i,(i+j) / 2,rfl,h1,by omega,by omega,h4,λ_=>hf⟩,by dsimp only;omega⟩
 ·right
  obtain rfl:i=j:=by omega
  exact hx i h1 h3 h4 h5
theorem Zrr {a b:Nat} (h:a+b<=4194304):Wq (Int.fdiv (IntKind.wrap IntKind.u64 (Wq ((a:Int)+(b:Int)))) ((2:Int) ^ Min.min (Int.toNat (1:Int)) (IntKind.bits IntKind.u64)))=(((a+b) / 2:Nat):Int):=by
 rw[XG (n:=(a:Int)+(b:Int)) (by omega) (by omega)];have e1:IntKind.wrap IntKind.u64 ((a:Int)+(b:Int))=((a+b:Nat):Int):=by
  have:IntKind.wrap IntKind.u64 ((a:Int)+(b:Int))=((a:Int)+(b:Int)) % 18446744073709551616:=rfl;rw[this];omega
 have e2:((2:Int) ^ Min.min (Int.toNat (1:Int)) (IntKind.bits IntKind.u64))=2:=rfl;rw[e1,e2];have e3:Int.fdiv ((a+b:Nat):Int) 2=(((a+b) / 2:Nat):Int):=by
  rw[Int.fdiv_eq_ediv_of_nonneg _ (by omega)];omega
 rw[e3,XG (by omega) (by omega)]
theorem Zsy (p:List NS) (e:NS) (q r:List NS) (hn:(p++e::q++r).length<=1048576) {a v0:Int} (ha:a=(p.length:Int)) (hv:v0=((p.length+1+q.length:Nat):Int)) :
  Zn (λv=>Zz v0 v.1 v.2.1) (a,p++e::q++r,())=some (.inr (p++q++e::r)):=by
 subst ha;subst hv;simp only[List.length_append,List.length_cons] at hn;refine Ya q.length (λk v=>v.1=((p.length+k:Nat):Int)/\∃ q1 q2,q=q1++q2/\q1.length=k/\v.2.1=p++q1++e::q2++r) _ ⟨by simp,[],q,rfl,rfl,by simp⟩ ?_ ?_
 ·rintro k ⟨i,L,⟨⟩⟩ hk ⟨hi,q1,q2,rfl,h1,hL⟩
  simp only at hi hL;subst hi;subst hL;subst h1;simp only[List.length_append] at hk hn;obtain ⟨d,q2,rfl⟩:=Zqc (l:=q2) (by omega);simp only[List.length_cons] at hk hn;have hx:p++q1++e::d::q2++r=(p++q1)++e::([]++d::(q2++r)):=by simp
  obtain ⟨a1,a2,a3,a4,a5,a6⟩:=ZvZ (p++q1) e [] d (q2++r) (i:=p.length+q1.length) (j:=p.length+q1.length+1) (by rw[List.length_append]) (by simp);have w1:Wq (((p.length+1+(q1++d::q2).length:Nat):Int)-1)=((p.length+(q1++d::q2).length:Nat):Int):=by
   simp only[List.length_append,List.length_cons];rw[XG (by omega) (by omega)];omega
  have w2:Wq (((p.length+q1.length:Nat):Int)+1)=((p.length+q1.length+1:Nat):Int):=by rw[XG (by omega) (by omega)];omega
  left;refine ⟨(((p.length+q1.length+1:Nat):Int),(p++q1)++d::([]++e::(q2++r)),()),?_,by dsimp only;omega,q1++[d],q2,by simp,by simp,by simp⟩;dsimp only;unfold Zz;rw[w1,if_pos (by simp only[List.length_append,List.length_cons];omega),hx,w2,Zo,a2,Bq,Zo,a1,Bq,Int.toNat_natCast,Zo,a3,Bq,Int.toNat_natCast,a5]
 ·rintro ⟨i,L,⟨⟩⟩ ⟨hi,q1,q2,rfl,h1,hL⟩
  simp only at hi hL;subst hi;subst hL;rw[List.length_append] at h1;have e2:q2=[]:=List.length_eq_zero_iff.1 (by omega);subst e2;dsimp only;unfold Zz;rw[if_neg (by rw[XG (by omega) (by simp only[List.length_append] at hn ⊢;omega)];omega)];simp
theorem Zt0 (p q:List NS) (e:NS) (r:List NS) (hn:(p++q++e::r).length<=1048576) {a v0:Int} (ha:a=((p.length+q.length:Nat):Int)) (hv:v0=(p.length:Int)) :
  Zn (λv=>ZA v0 v.1 v.2.1) (a,p++q++e::r,())=some (.inr (p++e::q++r)):=by
 subst ha;subst hv;simp only[List.length_append,List.length_cons] at hn;refine Ya q.length (λk v=>∃ q1 q2,q=q1++q2/\q2.length=k/\v.1=((p.length+q1.length:Nat):Int)/\v.2.1=p++q1++e::q2++r) _ ⟨q,[],by simp,rfl,rfl,by simp⟩ ?_ ?_
 ·rintro k ⟨i,L,⟨⟩⟩ hk ⟨q1,q2,rfl,h1,hi,hL⟩
  simp only at hi hL;subst hi;subst hL;subst h1;simp only[List.length_append] at hk hn;obtain ⟨q1,d,rfl⟩:=ZqN (l:=q1) (by omega);simp only[List.length_append,List.length_singleton] at hk hn;have hx:p++(q1++[d])++e::q2++r=(p++q1)++d::([]++e::(q2++r)):=by simp
  obtain ⟨a1,a2,a3,a4,a5,a6⟩:=ZvZ (p++q1) d [] e (q2++r) (i:=p.length+q1.length) (j:=p.length+(q1++[d]).length) (by rw[List.length_append]) (by simp;omega);have w2:Wq (((p.length+(q1++[d]).length:Nat):Int)-1)=((p.length+q1.length:Nat):Int):=by rw[List.length_append,List.length_singleton,XG (by omega) (by omega)];omega
  left;refine ⟨(((p.length+q1.length:Nat):Int),(p++q1)++e::([]++d::(q2++r)),()),?_,q1,d::q2,by simp,by simp,rfl,by simp⟩;dsimp only;unfold ZA;rw[if_pos (by simp only[List.length_append,List.length_singleton];omega),hx,w2,Zo,a1,Bq,Zo,a2,Bq,Int.toNat_natCast,Zo,a4,Bq,Int.toNat_natCast,a6]
 ·rintro ⟨i,L,⟨⟩⟩ ⟨q1,q2,rfl,h1,hi,hL⟩
  simp only at hi hL;subst hi;subst hL;rw[List.length_append] at h1;have e2:q1=[]:=List.length_eq_zero_iff.1 (by omega);subst e2;dsimp only;unfold ZA;rw[if_neg (by simp)];simp
theorem Zv0 (L:List NS) (a m b:Int) (rc:List NS->Int->Int->Int->Unit->Option (List NS)) (s:Int) {M E:Int} (hM:Wq (Int.fdiv (IntKind.wrap IntKind.u64 (Wq (a+b))) ((2:Int) ^ Min.min (Int.toNat (1:Int)) (IntKind.bits IntKind.u64)))=M)
  (hE:Wq (Wq (M+m)-s)=E):Zk L a m b rc s s =
  (if s<m/\m<E then ZB L s m E () else some L).bind λL1=>(if a<s/\s<M then rc L1 a s M () else some L1).bind λL2=>(if M<E/\E<b then rc L2 M E b () else some L2).bind λL3=>some (.inr L3):=by
 unfold Zk;rw[if_neg (Int.lt_irrefl _)];simp only[hM,hE];by_cases c1:s<m<;>by_cases c2:m<E<;>by_cases c3:a<s<;>by_cases c4:s<M<;>by_cases c5:M<E<;>by_cases c6:E<b <;>
  simp only[c1,c2,c3,c4,c5,c6,and_self,and_true,true_and,and_false,false_and,if_true,if_false,Bq]
def Le {ρ:Type} (o p:Option ρ):Prop:=∀ r,o=some r->p=some r
theorem Le.rfl' {ρ:Type} (o:Option ρ):Le o o:=λ_ h=>h
theorem Le.bind {α ρ:Type} {o p:Option α} {f g:α->Option ρ} (h:Le o p) (hf:∀ x,Le (f x) (g x)):Le (o.bind f) (p.bind g):=by
 intro r hr;cases o with
 | none=>cases hr
 | some x =>
  rw[h x rfl,Bq];exact hf x r hr
theorem Le.ite {ρ:Type} {P:Prop} {_:Decidable P} {o p o' p':Option ρ} (h:Le o p) (h':Le o' p'):Le (if P then o else o') (if P then p else p'):=by
 split
 ·exact h
 ·exact h'
theorem Le.while {τ ρ:Type} {f g:τ->Option (τ ⊕ ρ)} (h:∀ v,Le (f v) (g v)) (v:τ):Le (Zn f v) (Zn g v):=by
 intro r hr;obtain ⟨n,hn⟩:=Zaa.1 hr;refine Zaa.2 ⟨n,?_⟩;clear hr;induction n generalizing v with
 | zero=>simp[iterM] at hn
 | succ n ih =>
  simp only[iterM] at hn ⊢;split at hn
  ·cases hn
  ·rename_i v' e
   rw[h _ _ e];exact ih v' hn
  ·rename_i r' e
   rw[h _ _ e];exact hn
theorem Zv2 {f g:List NS->Int->Int->Int->Unit->Option (List NS)} (h:∀ L a m b u,Le (f L a m b u) (g L a m b u)) (L:List NS) (a m b:Int) (u:Unit) :
  Le (Zp f L a m b u) (Zp g L a m b u):=by
 have h4:∀ v:Int×Int×Unit,Le (Zk L a m b f v.1 v.2.1) (Zk L a m b g v.1 v.2.1):=by
  rintro ⟨v0,v1,⟨⟩⟩;dsimp only;by_cases c:v0<v1
  ·unfold Zk
   rw[if_pos c,if_pos c];exact Le.rfl' _
  ·unfold Zk
   rw[if_neg c,if_neg c];repeat' first
    | exact Le.rfl' _
    | exact h _ _ _ _ _
    | refine Le.ite ?_ ?_
    | refine Le.bind ?_ (λ_=>?_)
 unfold Zp;exact Le.ite (Le.rfl' _) (Le.ite (Le.rfl' _) (Le.ite (Le.while h4 _) (Le.while h4 _)))
theorem ZyT (L:List NS) (a m b:Int) (u:Unit):∀ n,Le (Zl n L a m b u) (Zl (n+1) L a m b u):=by
 intro n;induction n generalizing L a m b u with
 | zero=>intro r hr;cases hr
 | succ n ih=>exact Zv2 (λL a m b u=>ih L a m b u) L a m b u
theorem ZqR {L:List NS} {a m b:Int} {u:Unit} {n:Nat} {r:List NS} (h:Zl n L a m b u=some r):∀ k,Zl (n+k) L a m b u=some r
 | 0=>h
 | k+1=>ZyT L a m b u (n+k) r (ZqR h k)
theorem Zxu {L:List NS} {a m b:Int} {u:Unit} {n:Nat} {r:List NS} (h:Zl n L a m b u=some r):ZF L a m b u=some r:=by
 unfold ZF;refine ZqF ⟨n,h⟩ λk r' hk=>?_;have h1:=ZqR h k;have h2:=ZqR hk n;rw[Nat.add_comm] at h2;rw[h1] at h2;exact (Option.some.inj h2).symm
theorem Zv1 (x:List NS) (e:NS) (v y:List NS) (hn:(x++e::v++y).length<=1048576) (hv:v.Pairwise RS) (hN:∀ q∈v,Zj.Net e<Zj.Net q) :
  ∃ w,Zn (λs=>Zw (x++e::v++y) (x.length:Int) s.1 s.2.1) (((x.length+1:Nat):Int),((x.length+1+v.length:Nat):Int),())=some (x++w++y)/\w.Perm (e::v)/\w.Pairwise RS:=by
 simp only[List.length_append,List.length_cons] at hn;have hat:∀ (k:Nat) (q:NS),v[k]?=some q->(x++e::v++y)[x.length+1+k]?=some q:=λk q hk=>by
  rw[List.append_assoc,List.getElem?_append_right (by omega),show x.length+1+k-x.length=k+1 by omega,List.cons_append,List.getElem?_cons_succ,List.getElem?_append_left (List.getElem?_eq_some_iff.1 hk).1,hk]
 have h0:(x++e::v++y)[x.length]?=some e:=by rw[List.append_assoc,List.cons_append];exact Ze8 x e _ rfl
 have key:=bsearch (step:=λs=>Zw (x++e::v++y) (x.length:Int) s.1 s.2.1)
  (λi=>match (x++e::v++y)[i]? with
   | some q=>ltS q e
   | none=>false) (lo:=x.length+1) (hi:=x.length+1+v.length) (by omega) (Q:=λr=>∃ w,r=x++w++y/\w.Perm (e::v)/\w.Pairwise RS) ?_ ?_
 ·obtain ⟨r,h1,w,rfl,h2,h3⟩:=key
  exact ⟨w,h1,h2,h3⟩
 ·intro i j hi hij hj
  dsimp only;have hq:v[(i+j) / 2-(x.length+1)]?=some (v[(i+j) / 2-(x.length+1)]'(by omega)):=List.getElem?_eq_getElem _;generalize v[(i+j) / 2-(x.length+1)]'(by omega)=q at hq;have hq2:=hat _ q hq;rw[show x.length+1+((i+j) / 2-(x.length+1))=(i+j) / 2 by omega] at hq2;obtain ⟨c,hc,hc2⟩:=cmp_eq q e;unfold Zw;rw[if_pos (by omega),Zrr (by omega),Zo,hq2,Bq,Zo,h0,Bq,hc,Bq];dsimp only;by_cases c2:c<0
  ·rw[if_pos c2,if_pos (hc2.1 c2),XG (by omega) (by omega)]
   rfl
  ·rw[if_neg c2,if_neg (λh=>c2 (hc2.2 h))]
 ·intro s hs1 hs2 hf1 hf2
  obtain ⟨v1,v2,rfl,hl⟩:∃ v1 v2,v=v1++v2/\v1.length=s-(x.length+1):=⟨v.take (s-(x.length+1)),v.drop (s-(x.length+1)),(List.take_append_drop _ _).symm,by rw[List.length_take];omega⟩;rw[List.length_append] at hs2 hn;refine ⟨x++(v1++e::v2)++y,?_,v1++e::v2,rfl,List.perm_middle,ZhB (R:=RS) (λ_ _ _ a b=>RS.trans a b) hv (λp hp=>?_) (λp hp=>?_)⟩
  ·dsimp only
   unfold Zw;rw[if_neg (by omega)];have:=Zsy x e v1 (v2++y) (by simp only[List.length_append,List.length_cons];omega) (a:=(x.length:Int)) (v0:=(s:Int)) rfl (by omega);have e1:x++e::v1++(v2++y)=x++e::(v1++v2)++y:=by simp
   rw[e1] at this;rw[this];simp
  ·obtain ⟨v1,rfl⟩:=Zlh hp
   rw[List.length_append,List.length_singleton] at hl;have:=hf1 (by omega);have ha:(x++e::(v1++[p]++v2)++y)[s-1]?=some p:=by
    have:=hat v1.length p (by rw[List.append_assoc];exact Ze8 v1 p v2 rfl);rw[<-this];congr 1;omega
   rw[ha] at this;exact (Zws (hN p (by simp))).1 this
  ·obtain ⟨v2,rfl⟩:∃ v',v2=p::v':=by
    cases v2 with
    | nil=>cases hp
    | cons z t=>simp at hp;subst hp;exact ⟨t,rfl⟩
   simp only[List.length_append,List.length_cons] at hf2;have:=hf2 (by omega);have ha:(x++e::(v1++p::v2)++y)[s]?=some p:=by
    have:=hat v1.length p (Ze8 v1 p v2 rfl);rw[<-this];congr 1;omega
   rw[ha] at this;exact (Zws (hN p (by simp))).2 this
theorem ZuD (x u:List NS) (e:NS) (y:List NS) (hn:(x++u++e::y).length<=1048576) (hu:u.Pairwise RS) (hN:∀ q∈u,Zj.Net q<Zj.Net e) :
  ∃ w,Zn (λs=>Zx (x++u++e::y) ((x.length+u.length:Nat):Int) s.1 s.2.1) ((x.length:Int),((x.length+u.length:Nat):Int),())=some (x++w++y)/\w.Perm (u++[e])/\w.Pairwise RS:=by
 simp only[List.length_append,List.length_cons] at hn;have hat:∀ (k:Nat) (q:NS),u[k]?=some q->(x++u++e::y)[x.length+k]?=some q:=λk q hk=>by
  rw[List.append_assoc,List.getElem?_append_right (by omega),show x.length+k-x.length=k by omega,List.getElem?_append_left (List.getElem?_eq_some_iff.1 hk).1,hk]
 have h0:(x++u++e::y)[x.length+u.length]?=some e:=Ze8 (x++u) e y (by rw[List.length_append]);have key:=bsearch (step:=λs=>Zx (x++u++e::y) ((x.length+u.length:Nat):Int) s.1 s.2.1)
  (λi=>match (x++u++e::y)[i]? with
   | some q=>!ltS e q
   | none=>false) (lo:=x.length) (hi:=x.length+u.length) (by omega) (Q:=λr=>∃ w,r=x++w++y/\w.Perm (u++[e])/\w.Pairwise RS) ?_ ?_
 ·obtain ⟨r,h1,w,rfl,h2,h3⟩:=key
  exact ⟨w,h1,h2,h3⟩
 ·intro i j hi hij hj
  dsimp only;have hq:u[(i+j) / 2-x.length]?=some (u[(i+j) / 2-x.length]'(by omega)):=List.getElem?_eq_getElem _;generalize u[(i+j) / 2-x.length]'(by omega)=q at hq;have hq2:=hat _ q hq;rw[show x.length+((i+j) / 2-x.length)=(i+j) / 2 by omega] at hq2;obtain ⟨c,hc,hc2⟩:=cmp_eq e q;unfold Zx;rw[if_pos (by omega),Zrr (by omega),Zo,h0,Bq,Zo,hq2,Bq,hc,Bq];dsimp only;by_cases c2:c<0
  ·rw[if_pos c2,if_neg (by simp[hc2.1 c2])]
  ·have hl:ltS e q=false:=by
    cases hl:ltS e q with
    | true=>exact absurd (hc2.2 hl) c2
    | false=>rfl
   rw[if_neg c2,XG (by omega) (by omega),if_pos (by simp[hl])];rfl
 ·intro s hs1 hs2 hf1 hf2
  obtain ⟨u1,u2,rfl,hl⟩:∃ v1 v2,u=v1++v2/\v1.length=s-x.length:=⟨u.take (s-x.length),u.drop (s-x.length),(List.take_append_drop _ _).symm,by rw[List.length_take];omega⟩;rw[List.length_append] at hs2 hn;refine ⟨x++(u1++e::u2)++y,?_,u1++e::u2,rfl,by rw[List.append_assoc];exact List.Perm.append_left u1 (List.perm_append_singleton e u2).symm,ZhB (R:=RS) (λ_ _ _ a b=>RS.trans a b) hu (λp hp=>?_) (λp hp=>?_)⟩
  ·dsimp only
   unfold Zx;rw[if_neg (by omega)];have:=Zt0 (x++u1) u2 e y (by simp only[List.length_append,List.length_cons];omega) (a:=((x.length+(u1++u2).length:Nat):Int)) (v0:=(s:Int)) (by simp only[List.length_append];omega) (by rw[List.length_append];omega);have e1:x++u1++u2++e::y=x++(u1++u2)++e::y:=by simp
   rw[e1] at this;rw[this];simp
  ·obtain ⟨u1,rfl⟩:=Zlh hp
   rw[List.length_append,List.length_singleton] at hl;have:=hf1 (by omega);have ha:(x++(u1++[p]++u2)++e::y)[s-1]?=some p:=by
    have:=hat u1.length p (by rw[List.append_assoc];exact Ze8 u1 p u2 rfl);rw[<-this];congr 1;omega
   rw[ha] at this;exact (Zws (hN p (by simp))).2 (by simpa using this)
  ·obtain ⟨u2,rfl⟩:∃ v',u2=p::v':=by
    cases u2 with
    | nil=>cases hp
    | cons z t=>simp at hp;subst hp;exact ⟨t,rfl⟩
   simp only[List.length_append,List.length_cons] at hf2;have:=hf2 (by omega);have ha:(x++(u1++p::u2)++e::y)[s]?=some p:=by
    have:=hat u1.length p (Ze8 u1 p u2 rfl);rw[<-this];congr 1;omega
   rw[ha] at this;exact (Zws (hN p (by simp))).1 (by simpa using this)
theorem ZmT {α:Type} (l:List α) {k:Nat} (h:k<=l.length):∃ l1 l2,l=l1++l2/\l1.length=k:=⟨l.take k,l.drop k,(List.take_append_drop _ _).symm,by rw[List.length_take];omega⟩
def Zyj (n:Nat):Prop:=∀ (x u v y:List NS),u.length+v.length<=n->0<u.length->0<v.length->(x++u++v++y).length<=1048576->u.Pairwise RS->v.Pairwise RS->(∀ p∈u,∀ q∈v,Zj.Net p<Zj.Net q)->
 ∃ w,Zl n (x++u++v++y) (x.length:Int) ((x.length+u.length:Nat):Int) ((x.length+u.length+v.length:Nat):Int) ()=some (x++w++y)/\w.Perm (u++v)/\w.Pairwise RS
theorem ZuE {n:Nat} (ih:Zyj n) (x u1 u2 v1 v2 y:List NS) (hsz:u1.length+v1.length<=n/\u2.length+v2.length<=n) (hn:(x++(u1++u2)++(v1++v2)++y).length<=1048576) (hu:(u1++u2).Pairwise RS) (hv:(v1++v2).Pairwise RS)
  (hN:∀ p∈u1++u2,∀ q∈v1++v2,Zj.Net p<Zj.Net q) (h12:∀ p∈u1,∀ q∈v2,RS p q) (h21:∀ q∈v1,∀ p∈u2,RS q p) {a m b s M E:Int} (ha:a=(x.length:Int)) (hm:m=((x.length+u1.length+u2.length:Nat):Int)) (hb:b=((x.length+u1.length+u2.length+v1.length+v2.length:Nat):Int))
  (hs:s=((x.length+u1.length:Nat):Int)) (hM:M=((x.length+u1.length+v1.length:Nat):Int)) (hE:E=((x.length+u1.length+u2.length+v1.length:Nat):Int)) :
  ∃ w,((if s<m/\m<E then ZB (x++(u1++u2)++(v1++v2)++y) s m E () else some (x++(u1++u2)++(v1++v2)++y)).bind λL1=>(if a<s/\s<M then Zl n L1 a s M () else some L1).bind λL2=>(if M<E/\E<b then Zl n L2 M E b () else some L2).bind λL3=>(some (.inr L3):Option ((Int×Int×Unit) ⊕ List NS)))=some (.inr (x++w++y))/\w.Perm (u1++u2++(v1++v2))/\w.Pairwise RS:=by
 subst ha;subst hm;subst hb;subst hs;subst hM;subst hE;simp only[List.length_append] at hn;have e1:(if (((x.length+u1.length:Nat):Int)<((x.length+u1.length+u2.length:Nat):Int)/\((x.length+u1.length+u2.length:Nat):Int)<((x.length+u1.length+u2.length+v1.length:Nat):Int)) then ZB (x++(u1++u2)++(v1++v2)++y) ((x.length+u1.length:Nat):Int) ((x.length+u1.length+u2.length:Nat):Int) ((x.length+u1.length+u2.length+v1.length:Nat):Int) () else some (x++(u1++u2)++(v1++v2)++y))=some (x++u1++v1++(u2++v2++y)):=by
  by_cases c:0<u2.length/\0<v1.length
  ·rw[if_pos (by omega)]
   have:=ZyL (x++u1) u2 v1 (v2++y) (List.length_pos_iff.1 c.1) (List.length_pos_iff.1 c.2) (by simp only[List.length_append];omega) (a:=((x.length+u1.length:Nat):Int)) (m:=((x.length+u1.length+u2.length:Nat):Int)) (b:=((x.length+u1.length+u2.length+v1.length:Nat):Int)) (by rw[List.length_append]) (by rw[List.length_append]) (by rw[List.length_append]);have e:x++(u1++u2)++(v1++v2)++y=x++u1++u2++v1++(v2++y):=by simp
   rw[e,this];simp
  ·rw[if_neg (by omega)]
   by_cases c2:u2.length=0
   ·rw[List.length_eq_zero_iff.1 c2];simp
   ·have:v1=[]:=List.length_eq_zero_iff.1 (by omega)
    rw[this];simp
 rw[e1,Bq];obtain ⟨w1,e2,p1,s1⟩:∃ w1,(if (((x.length:Nat):Int)<((x.length+u1.length:Nat):Int)/\((x.length+u1.length:Nat):Int)<((x.length+u1.length+v1.length:Nat):Int)) then Zl n (x++u1++v1++(u2++v2++y)) ((x.length:Nat):Int) ((x.length+u1.length:Nat):Int) ((x.length+u1.length+v1.length:Nat):Int) () else some (x++u1++v1++(u2++v2++y)))=some (x++w1++(u2++v2++y))/\w1.Perm (u1++v1)/\w1.Pairwise RS:=by
  by_cases c:0<u1.length/\0<v1.length
  ·rw[if_pos (by omega)]
   exact ih x u1 v1 (u2++v2++y) hsz.1 c.1 c.2 (by simp only[List.length_append];omega) (List.pairwise_append.1 hu).1 (List.pairwise_append.1 hv).1 (λp hp q hq=>hN p (List.mem_append_left _ hp) q (List.mem_append_left _ hq))
  ·rw[if_neg (by omega)]
   refine ⟨u1++v1,by simp,List.Perm.refl _,?_⟩;by_cases c2:u1.length=0
   ·rw[List.length_eq_zero_iff.1 c2];exact (List.pairwise_append.1 hv).1
   ·have:v1=[]:=List.length_eq_zero_iff.1 (by omega)
    rw[this,List.append_nil];exact (List.pairwise_append.1 hu).1
 rw[e2,Bq];have hw1:=p1.length_eq;rw[List.length_append] at hw1;obtain ⟨w2,e3,p2,s2⟩:∃ w2,(if (((x.length+u1.length+v1.length:Nat):Int)<((x.length+u1.length+u2.length+v1.length:Nat):Int)/\((x.length+u1.length+u2.length+v1.length:Nat):Int)<((x.length+u1.length+u2.length+v1.length+v2.length:Nat):Int)) then Zl n (x++w1++(u2++v2++y)) ((x.length+u1.length+v1.length:Nat):Int) ((x.length+u1.length+u2.length+v1.length:Nat):Int) ((x.length+u1.length+u2.length+v1.length+v2.length:Nat):Int) () else some (x++w1++(u2++v2++y)))=some (x++w1++w2++y)/\w2.Perm (u2++v2)/\w2.Pairwise RS:=by
  by_cases c:0<u2.length/\0<v2.length
  ·rw[if_pos (by omega)]
   obtain ⟨w2,h1,h2,h3⟩:=ih (x++w1) u2 v2 y hsz.2 c.1 c.2 (by simp only[List.length_append];omega) (List.pairwise_append.1 hu).2.1 (List.pairwise_append.1 hv).2.1 (λp hp q hq=>hN p (List.mem_append_right _ hp) q (List.mem_append_right _ hq));refine ⟨w2,?_,h2,h3⟩;rw[<-h1];have e4:((x.length+u1.length+v1.length:Nat):Int)=(((x++w1).length:Nat):Int):=by rw[List.length_append];omega
   have e5:((x.length+u1.length+u2.length+v1.length:Nat):Int)=(((x++w1).length+u2.length:Nat):Int):=by rw[List.length_append];omega
   have e6:((x.length+u1.length+u2.length+v1.length+v2.length:Nat):Int)=(((x++w1).length+u2.length+v2.length:Nat):Int):=by rw[List.length_append];omega
   rw[e4,e5,e6];simp
  ·rw[if_neg (by omega)]
   refine ⟨u2++v2,by simp,List.Perm.refl _,?_⟩;by_cases c2:u2.length=0
   ·rw[List.length_eq_zero_iff.1 c2];exact (List.pairwise_append.1 hv).2.1
   ·have:v2=[]:=List.length_eq_zero_iff.1 (by omega)
    rw[this,List.append_nil];exact (List.pairwise_append.1 hu).2.1
 rw[e3,Bq];obtain ⟨q1,q2⟩:=Zpy hu hv h12 h21 p1 s1 p2 s2;exact ⟨w1++w2,by simp,q2,q1⟩
theorem ZyS:∀ n,Zyj n:=by
 intro n;induction n with
 | zero=>intro x u v y h0 h1;omega
 | succ n ih =>
  intro x u v y hsz hu0 hv0 hn hu hv hN;have hn':=hn;simp only[List.length_append] at hn';show ∃ w,Zp (Zl n) (x++u++v++y) _ _ _ ()=_/\_;unfold Zp;have d1:Wq (((x.length+u.length:Nat):Int)-(x.length:Int))=(u.length:Int):=by rw[XG (by omega) (by omega)];omega
  have d2:Wq (((x.length+u.length+v.length:Nat):Int)-((x.length+u.length:Nat):Int))=(v.length:Int):=by rw[XG (by omega) (by omega)];omega
  rw[d1,d2];by_cases c1:u.length=1
  ·obtain ⟨e,rfl⟩:=List.length_eq_one_iff.1 c1
   rw[if_pos (by omega)];obtain ⟨w,h1,h2,h3⟩:=Zv1 x e v y (by simpa using hn) hv (λq hq=>hN e (by simp) q hq);have e1:x++[e]++v++y=x++e::v++y:=by simp
   rw[e1];exact ⟨w,h1,h2,h3⟩
  rw[if_neg (by omega)];by_cases c2:v.length=1
  ·obtain ⟨e,rfl⟩:=List.length_eq_one_iff.1 c2
   rw[if_pos (by omega)];obtain ⟨w,h1,h2,h3⟩:=ZuD x u e y (by simpa using hn) hu (λq hq=>hN q hq e (by simp));have e1:x++u++[e]++y=x++u++e::y:=by simp
   rw[e1];exact ⟨w,h1,h2,h3⟩
  rw[if_neg (by omega)];have hmid:Wq (Int.fdiv (IntKind.wrap IntKind.u64 (Wq ((x.length:Int)+((x.length+u.length+v.length:Nat):Int)))) ((2:Int) ^ Min.min (Int.toNat (1:Int)) (IntKind.bits IntKind.u64)))=(((x.length+(x.length+u.length+v.length)) / 2:Nat):Int):=Zrr (by omega);generalize hM:(x.length+(x.length+u.length+v.length)) / 2=M at hmid;have hmu:∀ (k:Nat) (q:NS),u[k]?=some q->(x++u++v++y)[x.length+k]?=some q:=λk q hk=>by
   rw[List.append_assoc,List.append_assoc,List.getElem?_append_right (by omega),show x.length+k-x.length=k by omega,List.getElem?_append_left (List.getElem?_eq_some_iff.1 hk).1,hk]
  have hmv:∀ (k:Nat) (q:NS),v[k]?=some q->(x++u++v++y)[x.length+u.length+k]?=some q:=λk q hk=>by
   rw[List.append_assoc,List.getElem?_append_right (by rw[List.length_append];omega),List.length_append,show x.length+u.length+k-(x.length+u.length)=k by omega,List.getElem?_append_left (List.getElem?_eq_some_iff.1 hk).1,hk]
  have srch:∀ lo hi:Nat,x.length<=lo->lo<=hi->hi<=x.length+u.length->(∀ c,lo<=c->c<hi->x.length+u.length+c<=M+(x.length+u.length)-1/\M+(x.length+u.length)-1<x.length+u.length+v.length+c)->(lo=x.length\/lo+(x.length+u.length+v.length)=M+(x.length+u.length))->(hi=x.length+u.length\/hi=M)->hi<=M->M+(x.length+u.length)<=lo+(x.length+u.length+v.length)->
    ∃ r,Zn (λs=>Zk (x++u++v++y) (x.length:Int) ((x.length+u.length:Nat):Int) ((x.length+u.length+v.length:Nat):Int) (Zl n) s.1 s.2.1) ((lo:Int),(hi:Int),())=some r/\∃ w,r=x++w++y/\w.Perm (u++v)/\w.Pairwise RS:=by
   intro lo hi b1 b2 b3 b4 b5 b6 b7 b8;refine bsearch (λc=>match (x++u++v++y)[M+(x.length+u.length)-1-c]?,(x++u++v++y)[c]? with
    | some p,some q=>!ltS p q
    | _,_=>false) b2 ?_ ?_
   ·intro i j hi1 hij hj
    obtain ⟨k1,k2⟩:=b4 ((i+j) / 2) (by omega) (by omega);have hq:u[(i+j) / 2-x.length]?=some (u[(i+j) / 2-x.length]'(by omega)):=List.getElem?_eq_getElem _;generalize u[(i+j) / 2-x.length]'(by omega)=q at hq;have hq2:=hmu _ q hq;rw[show x.length+((i+j) / 2-x.length)=(i+j) / 2 by omega] at hq2;have hp:v[M-1-(i+j) / 2]?=some (v[M-1-(i+j) / 2]'(by omega)):=List.getElem?_eq_getElem _;generalize v[M-1-(i+j) / 2]'(by omega)=p at hp;have hp2:=hmv _ p hp;rw[show x.length+u.length+(M-1-(i+j) / 2)=M+(x.length+u.length)-1-(i+j) / 2 by omega] at hp2;obtain ⟨c,hc,hc2⟩:=cmp_eq p q;have w1:Wq (Wq (Wq ((M:Int)+((x.length+u.length:Nat):Int))-1)-(((i+j) / 2:Nat):Int))=((M+(x.length+u.length)-1-(i+j) / 2:Nat):Int):=by
     rw[XG (n:=(M:Int)+((x.length+u.length:Nat):Int)) (by omega) (by omega),XG (n:=(M:Int)+((x.length+u.length:Nat):Int)-1) (by omega) (by omega),XG (by omega) (by omega)];omega
    dsimp only;unfold Zk;rw[if_pos (by omega),hmid,Zrr (by omega),w1,Zo,hp2,Bq,Zo,hq2,Bq,hc,Bq];by_cases c2:c<0
    ·rw[if_pos c2,if_neg (by simp[hc2.1 c2])]
    ·have hl:ltS p q=false:=by
      cases hl:ltS p q with
      | true=>exact absurd (hc2.2 hl) c2
      | false=>rfl
     rw[if_neg c2,XG (by omega) (by omega),if_pos (by simp[hl])];rfl
   ·intro s hs1 hs2 hf1 hf2
    obtain ⟨u1,u2,rfl,hl1⟩:=ZmT u (k:=s-x.length) (by omega);simp only[List.length_append] at hM b3 b4 b5 b6 b8 hmid hsz hu0 hv0 c1 c2 hn';have hsM:s<=M:=by omega
    obtain ⟨v1,v2,rfl,hl2⟩:=ZmT v (k:=M-s) (by omega);simp only[List.length_append] at hM b3 b4 b5 b6 b8 hmid hsz hu0 hv0 c1 c2 hn';have h12:∀ p∈u1,∀ q∈v2,RS p q:=cross (R:=RS) (λ_ _ _ a b=>RS.trans a b) (List.pairwise_append.1 hu).1 (List.pairwise_append.1 hv).2.1 λp q hp hq=>by
     obtain ⟨u1,rfl⟩:=Zlh hp;obtain ⟨v2,rfl⟩:∃ v',v2=q::v':=by
      cases v2 with
      | nil=>cases hq
      | cons z t=>simp at hq;subst hq;exact ⟨t,rfl⟩
     simp only[List.length_append,List.length_cons,List.length_nil,Nat.zero_add] at hl1 hl2 hf1 b5 b8 hM;have hf:=hf1 (by omega);have a1:(x++(u1++[p]++u2)++(v1++q::v2)++y)[s-1]?=some p:=by
      rw[<-hmu u1.length p (by rw[List.append_assoc];exact Ze8 u1 p u2 rfl)];congr 1;omega
     have a2:(x++(u1++[p]++u2)++(v1++q::v2)++y)[M+(x.length+(u1.length+1+u2.length))-1-(s-1)]?=some q:=by
      rw[<-hmv v1.length q (Ze8 v1 q v2 rfl)];congr 1;simp only[List.length_append,List.length_singleton];omega
     rw[a1,a2] at hf;exact (Zws (hN p (by simp) q (by simp))).2 (by simpa using hf)
    have h21:∀ q∈v1,∀ p∈u2,RS q p:=cross (R:=RS) (λ_ _ _ a b=>RS.trans a b) (List.pairwise_append.1 hv).1 (List.pairwise_append.1 hu).2.1 λq p hq hp=>by
     obtain ⟨v1,rfl⟩:=Zlh hq;obtain ⟨u2,rfl⟩:∃ v',u2=p::v':=by
      cases u2 with
      | nil=>cases hp
      | cons z t=>simp at hp;subst hp;exact ⟨t,rfl⟩
     simp only[List.length_append,List.length_cons,List.length_nil,Nat.zero_add] at hl1 hl2 hf2 b6 b8 hM;have hf:=hf2 (by omega);have a1:(x++(u1++p::u2)++(v1++[q]++v2)++y)[s]?=some p:=by
      rw[<-hmu u1.length p (Ze8 u1 p u2 rfl)];congr 1;omega
     have a2:(x++(u1++p::u2)++(v1++[q]++v2)++y)[M+(x.length+(u1.length+(u2.length+1)))-1-s]?=some q:=by
      rw[<-hmv v1.length q (by rw[List.append_assoc];exact Ze8 v1 q v2 rfl)];congr 1;simp only[List.length_append,List.length_cons];omega
     rw[a1,a2] at hf;exact (Zws (hN p (by simp) q (by simp))).1 (by simpa using hf)
    obtain ⟨w,h1,h2,h3⟩:=ZuE ih x u1 u2 v1 v2 y ⟨by omega,by omega⟩ hn hu hv hN h12 h21 (a:=(x.length:Int)) (m:=((x.length+(u1++u2).length:Nat):Int)) (b:=((x.length+(u1++u2).length+(v1++v2).length:Nat):Int)) (s:=(s:Int)) (M:=(M:Int)) (E:=((M+(x.length+(u1++u2).length)-s:Nat):Int))
     rfl (by simp only[List.length_append];omega) (by simp only[List.length_append];omega) (by omega) (by omega) (by simp only[List.length_append];omega)
    refine ⟨_,?_,w,rfl,h2,h3⟩;dsimp only;rw[Zv0 _ _ _ _ _ _ (M:=(M:Int)) (E:=((M+(x.length+(u1++u2).length)-s:Nat):Int)) (by simpa only[List.length_append] using hmid) (by
     simp only[List.length_append];rw[XG (n:=(M:Int)+((x.length+(u1.length+u2.length):Nat):Int)) (by omega) (by omega),XG (by omega) (by omega)];omega)]
    exact h1
  rw[hmid];by_cases c3:M<x.length+u.length
  ·rw[if_pos (by omega)]
   have w2:Wq (Wq ((M:Int)+((x.length+u.length:Nat):Int))-((x.length+u.length+v.length:Nat):Int))=((M+(x.length+u.length)-(x.length+u.length+v.length):Nat):Int):=by
    rw[XG (n:=(M:Int)+((x.length+u.length:Nat):Int)) (by omega) (by omega),XG (by omega) (by omega)];omega
   rw[w2];obtain ⟨r,h1,w,rfl,h2,h3⟩:=srch (M+(x.length+u.length)-(x.length+u.length+v.length)) M (by omega) (by omega) (by omega) (λc hc1 hc2=>by omega) (by omega) (by omega) (by omega) (by omega);exact ⟨w,h1,h2,h3⟩
  ·rw[if_neg (by omega)]
   obtain ⟨r,h1,w,rfl,h2,h3⟩:=srch x.length (x.length+u.length) (by omega) (by omega) (by omega) (λc hc1 hc2=>by omega) (by omega) (by omega) (by omega) (by omega);exact ⟨w,h1,h2,h3⟩
theorem Zwy (x u v y:List NS) (hu0:0<u.length) (hv0:0<v.length) (hn:(x++u++v++y).length<=1048576) (hu:u.Pairwise RS) (hv:v.Pairwise RS) (hN:∀ p∈u,∀ q∈v,Zj.Net p<Zj.Net q) {a m b:Int} (ha:a=(x.length:Int)) (hm:m=((x.length+u.length:Nat):Int)) (hb:b=((x.length+u.length+v.length:Nat):Int)) :
  ∃ w,ZF (x++u++v++y) a m b ()=some (x++w++y)/\w.Perm (u++v)/\w.Pairwise RS:=by
 subst ha;subst hm;subst hb;obtain ⟨w,h1,h2,h3⟩:=ZyS _ x u v y (Nat.le_refl _) hu0 hv0 hn hu hv hN;exact ⟨w,Zxu h1,h2,h3⟩
def ZhI (w:List NS) (lo hi:Nat):Prop:=∀ p∈w,(lo:Int)<=Zj.Net p/\Zj.Net p<(hi:Int)
inductive Good (s:Nat):Nat->List NS->Prop
 | last {m:Nat} {w:List NS}:w.length<=s->w.Pairwise RS->ZhI w m (m+s)->Good s m w
 | cons {m:Nat} {w r:List NS}:w.length=s->w.Pairwise RS->ZhI w m (m+s)->Good s (m+s) r->Good s m (w++r)
inductive Full (s:Nat):Nat->List NS->Prop
 | nil:Full s 0 []
 | snoc {m:Nat} {D w:List NS}:Full s m D->w.length=s->w.Pairwise RS->ZhI w m (m+s)->Full s (m+s) (D++w)
theorem Full.len {s m:Nat} {D:List NS} (h:Full s m D):D.length=m:=by
 induction h with
 | nil=>rfl
 | snoc _ hw _ _ ih=>rw[List.length_append,ih,hw]
theorem Full.good {s m:Nat} {D r:List NS} (h:Full s m D) (hr:Good s m r):Good s 0 (D++r):=by
 induction h generalizing r with
 | nil=>exact hr
 | snoc _ hw hs hN ih =>
  rw[List.append_assoc];exact ih (.cons hw hs hN hr)
theorem Good.short {s m:Nat} {r:List NS} (h:Good s m r) (hs:0<s) (hl:r.length<=s):r.Pairwise RS/\ZhI r m (m+s):=by
 cases h with
 | last _ h2 h3=>exact ⟨h2,h3⟩
 | cons h1 h2 h3 h4 =>
  rename_i w r;rw[List.length_append] at hl;have:r=[]:=List.length_eq_zero_iff.1 (by omega);subst this;rw[List.append_nil];exact ⟨h2,h3⟩
theorem Good.first {s m:Nat} {r:List NS} (h:Good s m r) (hl:s<r.length):∃ w r',r=w++r'/\w.length=s/\w.Pairwise RS/\ZhI w m (m+s)/\Good s (m+s) r':=by
 cases h with
 | last h1=>omega
 | cons h1 h2 h3 h4=>exact ⟨_,_,rfl,h1,h2,h3,h4⟩
theorem Good.firsts {s m:Nat} {r:List NS} (h:Good s m r) (hs:0<s) (hl:s<=r.length):∃ w r',r=w++r'/\w.length=s/\w.Pairwise RS/\ZhI w m (m+s)/\Good s (m+s) r':=by
 by_cases c:s<r.length
 ·exact h.first c
 ·obtain ⟨h1,h2⟩:=h.short hs (by omega)
  exact ⟨r,[],by simp,by omega,h1,h2,.last (by simp) List.Pairwise.nil (λp hp=>by cases hp)⟩
theorem ZhI.perm {w u v:List NS} {lo mid hi:Nat} (h:w.Perm (u++v)) (h1:ZhI u lo mid) (h2:ZhI v mid hi) (ha:lo<=mid) (hb:mid<=hi):ZhI w lo hi:=λp hp=>by
 rcases List.mem_append.1 (h.mem_iff.1 hp) with q | q
 ·have:=h1 p q;omega
 ·have:=h2 p q;omega
theorem ZhI.lt {u v:List NS} {lo mid hi:Nat} (h1:ZhI u lo mid) (h2:ZhI v mid hi):∀ p∈u,∀ q∈v,Zj.Net p<Zj.Net q:=λp hp q hq=>by
 have:=h1 p hp;have:=h2 q hq;omega
theorem ZqQ (L0:List NS) (hn:L0.length<=1048576) {s:Nat} (hs:0<s) (hs2:s<=1048576) {L:List NS} (hG:Good s 0 L) (hp:L.Perm L0) {n0:Int} (hn0:n0=(L0.length:Int)) :
  ∃ L',Zn (λv=>ZU n0 (s:Int) v.1 v.2.1 v.2.2.1) ((0:Int),Wq ((2:Int)*(s:Int)),L,())=some (.inl (((2*s:Nat):Int),L',()))/\Good (2*s) 0 L'/\L'.Perm L0:=by
 subst hn0;have key:=VR (step:=λv=>ZU (L0.length:Int) (s:Int) v.1 v.2.1 v.2.2.1)
  (λv=>∃ (m:Nat) (D r:List NS),v.1=(m:Int)/\v.2.1=((m+2*s:Nat):Int)/\v.2.2.1=D++r/\Full (2*s) m D/\Good s m r/\(D++r).Perm L0)
  (λv=>L0.length-v.1.toNat) (λq=>∃ L',q=.inl (((2*s:Nat):Int),L',())/\Good (2*s) 0 L'/\L'.Perm L0)
  (v:=((0:Int),Wq ((2:Int)*(s:Int)),L,())) ⟨0,[],L,rfl,by rw[XG (by omega) (by omega)];dsimp only;omega,rfl,.nil,hG,hp⟩ ?_
 ·obtain ⟨q,h1,L',rfl,h2,h3⟩:=key
  exact ⟨L',h1,h2,h3⟩
 rintro ⟨a,b,L,⟨⟩⟩ ⟨m,D,r,ha,hb,hL,hF,hR,hP⟩;simp only at ha hb hL;subst ha;subst hb;subst hL;have hD:=hF.len;have hl:=hP.length_eq;rw[List.length_append] at hl;dsimp only;unfold ZU;have w1:Wq ((m:Int)+(s:Int))=((m+s:Nat):Int):=by rw[XG (by omega) (by omega)];omega
 have w2:Wq ((s:Int)*(2:Int))=((2*s:Nat):Int):=by rw[XG (by omega) (by omega)];omega
 rw[w1,w2];by_cases c:m+2*s<=L0.length
 ·left
  rw[if_pos (by omega)];obtain ⟨u,r1,rfl,hu,su,nu,hr1⟩:=hR.firsts hs (by omega);rw[List.length_append] at hl;obtain ⟨v,r2,rfl,hv,sv,nv,hr2⟩:=hr1.firsts hs (by omega);rw[List.length_append] at hl;obtain ⟨w,h1,h2,h3⟩:=Zwy D u v r2 (by omega) (by omega) (by simp only[List.length_append];omega) su sv (nu.lt nv) (a:=(m:Int)) (m:=((m+s:Nat):Int)) (b:=((m+2*s:Nat):Int)) (by omega) (by omega) (by omega);have e:D++(u++(v++r2))=D++u++v++r2:=by simp
  have hw:=h2.length_eq;rw[List.length_append] at hw;rw[e,h1,Bq];refine ⟨_,rfl,⟨m+2*s,D++w,r2,rfl,?_,rfl,.snoc hF (by omega) h3 ?_,?_,?_⟩,?_⟩
  ·show Wq (((m+2*s:Nat):Int)+Wq ((2:Int)*(s:Int)))=_
   rw[XG (n:=(2:Int)*(s:Int)) (by omega) (by omega),XG (by omega) (by omega)];omega
  ·exact ZhI.perm h2 nu (by rw[show m+2*s=m+s+s by omega];exact nv) (by omega) (by omega)
  ·rw[show m+2*s=m+s+s by omega];exact hr2
  ·refine List.Perm.trans ?_ hP
   rw[e];refine List.Perm.append_right r2 ?_;rw[List.append_assoc D];exact List.Perm.append_left D h2
  ·dsimp only;omega
 ·right
  rw[if_neg (by omega)];by_cases c2:m+s<L0.length
  ·rw[if_pos (by omega)]
   obtain ⟨u,v,rfl,hu,su,nu,hv⟩:=hR.first (by omega);rw[List.length_append] at hl;obtain ⟨sv,nv⟩:=hv.short hs (by omega);obtain ⟨w,h1,h2,h3⟩:=Zwy D u v [] (by omega) (by omega) (by simp only[List.length_append,List.length_nil];omega) su sv (nu.lt nv) (a:=(m:Int)) (m:=((m+s:Nat):Int)) (b:=(L0.length:Int)) (by omega) (by omega) (by omega);have e:D++(u++v)=D++u++v++[]:=by simp
   have hw:=h2.length_eq;rw[List.length_append] at hw;rw[e,h1,Bq,List.append_nil];refine ⟨_,rfl,D++w,rfl,hF.good (.last (by omega) h3 ?_),(List.Perm.append_left D h2).trans hP⟩;exact ZhI.perm h2 nu (by rw[show m+2*s=m+s+s by omega];exact nv) (by omega) (by omega)
  ·rw[if_neg (by omega)]
   obtain ⟨sr,nr⟩:=hR.short hs (by omega);exact ⟨_,rfl,D++r,rfl,hF.good (.last (by omega) sr λp hp=>by have:=nr p hp;omega),hP⟩
def Idx (m:Nat) (l:List NS):Prop:=∀ (k:Nat) (x:NS),l[k]?=some x->Zj.Net x=((m+k:Nat):Int)
theorem Idx.inc {m:Nat} {l:List NS} (h:Idx m l):l.Pairwise λp q=>Zj.Net p<Zj.Net q:=by
 rw[List.pairwise_iff_getElem];intro i j hi hj hij;rw[h i _ (List.getElem?_eq_getElem hi),h j _ (List.getElem?_eq_getElem hj)];omega
theorem Idx.Zxb {m:Nat} {l:List NS} (h:Idx m l):ZhI l m (m+l.length):=λp hp=>by
 obtain ⟨k,hk,e⟩:=List.getElem_of_mem hp;rw[<-e,h k _ (List.getElem?_eq_getElem hk)];omega
theorem Idx.parts {m:Nat} {u r:List NS} (h:Idx m (u++r)):Idx m u/\Idx (m+u.length) r:=by
 refine ⟨λk x hk=>h k x ?_,λk x hk=>?_⟩
 ·rw[List.getElem?_append_left (List.getElem?_eq_some_iff.1 hk).1,hk]
 ·have:=h (u.length+k) x (by rw[List.getElem?_append_right (by omega),show u.length+k-u.length=k by omega,hk])
  rw[this];omega
theorem Zuu (L0:List NS) (hn:L0.length<=1048576) (hI:Idx 0 L0):∃ L',ZM L0 ()=some L'/\L'.Perm L0/\L'.Pairwise RS:=by
 unfold ZM Yv;have passes:∀ L,Good 20 0 L->L.Perm L0->∃ L',Zn (λv=>ZV (L0.length:Int) v.1 v.2.1) ((20:Int),L,())=some (.inr L')/\L'.Perm L0/\L'.Pairwise RS:=by
  intro L hG hp;have key:=VR (step:=λv=>ZV (L0.length:Int) v.1 v.2.1)
   (λv=>∃ (s:Nat) (L:List NS),v=((s:Int),L,())/\20<=s/\Good s 0 L/\L.Perm L0) (λv=>L0.length-v.1.toNat) (λq=>∃ L',q=.inr L'/\L'.Perm L0/\L'.Pairwise RS)
   (v:=((20:Int),L,())) ⟨20,L,rfl,Nat.le_refl _,hG,hp⟩ ?_
  ·obtain ⟨q,h1,L',rfl,h2,h3⟩:=key
   exact ⟨L',h1,h2,h3⟩
  rintro _ ⟨s,L,rfl,hs,hG,hp⟩;dsimp only;unfold ZV;by_cases c:s<L0.length
  ·left
   rw[if_pos (by omega)];obtain ⟨L',h1,h2,h3⟩:=ZqQ L0 hn (by omega) (by omega) hG hp rfl;exact ⟨_,h1,⟨2*s,L',rfl,by omega,h2,h3⟩,by dsimp only;omega⟩
  ·right
   rw[if_neg (by omega)];exact ⟨_,rfl,L,rfl,hp,(hG.short (by omega) (by rw[hp.length_eq];omega)).1⟩
 have key:=VR (step:=λv=>Yk (L0.length:Int) v.1 v.2.1 v.2.2.1)
  (λv=>∃ (m:Nat) (D r:List NS),v.1=(m:Int)/\v.2.1=((m+20:Nat):Int)/\v.2.2.1=D++r/\Full 20 m D/\Idx m r/\(D++r).Perm L0)
  (λv=>L0.length-v.1.toNat) (λL'=>L'.Perm L0/\L'.Pairwise RS)
  (v:=((0:Int),(20:Int),L0,())) ⟨0,[],L0,rfl,rfl,rfl,.nil,hI,List.Perm.refl _⟩ ?_
 ·obtain ⟨L',h1,h2⟩:=key
  rw[h1,Bq];exact ⟨L',rfl,h2⟩
 rintro ⟨a,b,L,⟨⟩⟩ ⟨m,D,r,ha,hb,hL,hF,hR,hP⟩;simp only at ha hb hL;subst ha;subst hb;subst hL;have hD:=hF.len;have hl:=hP.length_eq;rw[List.length_append] at hl;dsimp only;unfold Yk;by_cases c:m+20<=L0.length
 ·left
  rw[if_pos (by omega)];obtain ⟨u,r,rfl,hu⟩:=ZmT r (k:=20) (by omega);obtain ⟨i1,i2⟩:=hR.parts;rw[List.length_append] at hl;obtain ⟨w,h1,h2,h3⟩:=Zwq D u r (by simp only[List.length_append];omega) i1.inc (a:=(m:Int)) (b:=((m+20:Nat):Int)) (by omega) (by omega);have e:D++(u++r)=D++u++r:=by simp
  have hw:=h2.length_eq;rw[e,h1,Bq];refine ⟨_,rfl,⟨m+20,D++w,r,rfl,?_,rfl,.snoc hF (by omega) h3 ?_,by rw[hu] at i2;exact i2,?_⟩,?_⟩
  ·show Wq (((m+20:Nat):Int)+20)=_
   rw[XG (by omega) (by omega)];omega
  ·intro p hp
   have:=i1.Zxb p (h2.mem_iff.1 hp);rw[hu] at this;exact this
  ·refine List.Perm.trans ?_ hP
   rw[e];exact List.Perm.append_right r (List.Perm.append_left D h2)
  ·dsimp only;omega
 ·right
  rw[if_neg (by omega)];obtain ⟨w,h1,h2,h3⟩:=Zwq D r [] (by simp only[List.length_append,List.length_nil];omega) hR.inc (a:=(m:Int)) (b:=(L0.length:Int)) (by omega) (by omega);have hw:=h2.length_eq;rw[List.append_nil] at h1;rw[h1,Bq,List.append_nil];obtain ⟨L',q1,q2,q3⟩:=passes (D++w) (hF.good (.last (by omega) h3 λp hp=>by
   have:=hR.Zxb p (h2.mem_iff.1 hp);omega)) ((List.Perm.append_left D h2).trans hP)
  exact ⟨L',q1,q2,q3⟩
def within (n a b:Int):Bool:=decide (a<=n)&&decide (n<=b)
theorem Js (n a b:Int):YN n a b=some (within n a b):=by
 unfold YN within;split<;>simp[*]
theorem Zck (n a b:Int):YB n a b=some (within n a b):=by
 unfold YB within;split<;>simp[*]
theorem Qa (n a b:Int):within n a b=true<->a<=n/\n<=b:=by simp[within]
def Ze1 (b:UInt8):Bool:=decide (97<=b.toNat)&&decide (b.toNat<=122)
def Zj1 (b:UInt8):Bool:=decide (48<=b.toNat)&&decide (b.toNat<=57)
def Zau (s:List UInt8):Bool:=decide (1<=s.length)&&decide (s.length<=8)&&s.all (λb=>Ze1 b||Zj1 b)&&(match s with
 | b::_=>Ze1 b
 | []=>false)
def Zo6 (s:List UInt8) (i:Nat):Prop:=∀ (j:Nat) (b:UInt8),j<i->s[j]?=some b->(Ze1 b||Zj1 b)=true/\(j=0->Ze1 b=true)
theorem ZqK {s:List UInt8} {i:Nat} {x:UInt8} (h:Zo6 s i) (hx:s[i]?=some x) (h1:(Ze1 x||Zj1 x)=true) (h2:i=0->Ze1 x=true):Zo6 s (i+1):=by
 intro j b hj hb;by_cases e:j<i
 ·exact h j b e hb
 ·have:j=i:=by omega
  subst this;rw[hx] at hb;injection hb with hb;subst hb
  exact ⟨h1,h2⟩
theorem ZoF {s:List UInt8} (h:Zo6 s s.length):Zau s=(decide (1<=s.length)&&decide (s.length<=8)):=by
 unfold Zau;have h1:s.all (λb=>Ze1 b||Zj1 b)=true:=by
  rw[List.all_eq_true];intro b hb;obtain ⟨j,hj⟩:=List.mem_iff_getElem?.1 hb;exact (h j b (List.getElem?_eq_some_iff.1 hj).1 hj).1
 rw[h1];cases s with
 | nil=>rfl
 | cons b r =>
  have:=(h 0 b (by simp) rfl).2 rfl;simp[this]
theorem Zsz {s:List UInt8} {j:Nat} {b:UInt8} (hb:s[j]?=some b) (h:(Ze1 b||Zj1 b)=false\/j=0/\Ze1 b=false):Zau s=false:=by
 unfold Zau;rcases h with h | ⟨rfl,h⟩
 ·have:s.all (λb=>Ze1 b||Zj1 b)=false:=by
   rw[List.all_eq_false];exact ⟨b,List.mem_of_getElem? hb,by simp[h]⟩
  simp[this]
 ·cases s with
  | nil=>simp at hb
  | cons c r=>simp at hb;subst hb;simp[h]
theorem Zek (s:List UInt8) (hl:s.length<=4611686018427387904):ZbH s=some (Zau s):=by
 unfold ZbH;refine Ya s.length (λk v=>v.1=(k:Int)/\Zo6 s k) _ ⟨rfl,λj b hj=>by omega⟩ ?_ ?_
 ·rintro k ⟨i,⟨⟩⟩ hk ⟨rfl,hS⟩
  have hx:s[k]?=some s[k]:=List.getElem?_eq_getElem hk;generalize s[k]=x at hx;simp only[Zcm,Zo,hx,Bq,show (k:Int)<(s.length:Int) from by omega,if_true,XG (show (-9223372036854775808:Int)<=(k:Int)+1 by omega) (by omega)];have ok:(Ze1 x||Zj1 x)=true->(k=0->Ze1 x=true)->(((k:Int)+1,()):Int×Unit).1=((k+1:Nat):Int)/\Zo6 s (k+1):=λh1 h2=>⟨by simp,ZqK hS hx h1 h2⟩;have bad:((Ze1 x||Zj1 x)=false\/k=0/\Ze1 x=false)->(some (Sum.inr false):Option (Int×Unit ⊕ Bool))=some (Sum.inr (Zau s)):=λh=>by rw[Zsz hx h]
  simp only[Ze1,Zj1] at ok bad;repeat' split
  all_goals first
   | (left;refine ⟨_,rfl,ok ?_ ?_⟩<;>simp<;>omega)
   | (right;refine bad ?_;first | (left;simp;omega) | (right;simp;omega))
 ·rintro ⟨i,⟨⟩⟩ ⟨rfl,hS⟩
  simp only[Zcm,Int.lt_irrefl,if_false];rw[ZoF hS];split
  ·rename_i h
   have h1:1<=s.length:=by omega
   have h2:decide ((s.length:Int)<=8)=decide (s.length<=8):=by rw[decide_eq_decide];omega
   simp[h1,h2]
  ·have h1:¬1<=s.length:=by omega
   simp[h1]
theorem dropWhile_nil {p:UInt8->Bool}:∀ (m:List UInt8),(∀ x∈m.dropWhile p,p x=true)->∀ x∈m,p x=true
 | [],_=>by simp
 | a::m,h=>by
  by_cases ha:p a=true
  ·rw[List.dropWhile_cons_of_pos ha] at h
   intro x hx;rcases List.mem_cons.1 hx with rfl | hx
   ·exact ha
   ·exact dropWhile_nil m h x hx
  ·rw[List.dropWhile_cons_of_neg ha] at h
   exact absurd (h a (by simp)) ha
theorem Zi1 {p:UInt8->Bool}:∀ (m:List UInt8),m.dropWhile p=[]<->∀ x∈m,p x=true
 | []=>by simp
 | a::m=>by
  by_cases ha:p a=true
  ·rw[List.dropWhile_cons_of_pos ha,Zi1 m];simp[ha]
  ·rw[List.dropWhile_cons_of_neg ha];simp[ha]
theorem ZuI (s cs:List UInt8):Lib.trimS s cs=[]<->∀ b∈s,cs.contains b=true:=by
 unfold Lib.trimS Lib.trimLeftS Lib.trimRightS;rw[Zi1];constructor
 ·intro h b hb
  exact dropWhile_nil s.reverse (λx hx=>h x (List.mem_reverse.2 hx)) b (List.mem_reverse.2 hb)
 ·intro h b hb
  exact h b (List.mem_reverse.1 ((List.dropWhile_sublist _).subset (List.mem_reverse.1 hb)))
def letters:List UInt8:=[97,98,99,100,101,102,103,104,105,106,107,108,109,110,111,112,113,114,115,116,117,118,119,120,121,122]
def ZfH:List UInt8:=letters++[48,49,50,51,52,53,54,55,56,57]
theorem Zwd {p:UInt8->Bool} (h:(List.range 256).all (λn=>p (UInt8.ofNat n))=true) (b:UInt8):p b=true:=by
 rw[List.all_eq_true] at h;have:=h b.toNat (List.mem_range.2 b.toNat_lt);simpa using this
theorem Zgd (b:UInt8):ZfH.contains b=(Ze1 b||Zj1 b):=by
 have:=Zwd (p:=λb=>ZfH.contains b == (Ze1 b||Zj1 b)) (by decide +kernel) b;simpa using this
theorem ZpW (s:List UInt8):Lib.trimS s ZfH=[]<->s.all (λb=>Ze1 b||Zj1 b)=true:=by
 rw[ZuI,List.all_eq_true];simp only[Zgd]
theorem Zot (b:UInt8):decide (0<=(Lib.indexByte letters b:Int))=Ze1 b:=by
 have:=Zwd (p:=λb=>decide (0<=(Lib.indexByte letters b:Int)) == Ze1 b) (by decide +kernel) b;simpa using this
theorem Zh4 (s:List UInt8):Zd8 s=some (Zau s):=by
 unfold Zd8;rw[Js,Bq];split
 ·rename_i h
  rw[Qa] at h;rw[Zh (by omega)];split
  ·rename_i ht
   have ht':=(ZpW s).1 ht;cases s with
   | nil=>simp at h
   | cons b r =>
    have e:atI (b::r) (0:Int)=some b:=rfl;rw[e,Bq];have e1:((b.toNat:Int)).toNat.toUInt8=b:=by simp
    rw[e1];have h1:1<=(b::r).length:=by simp
    have h2:(b::r).length<=8:=by omega
    have:=Zot b;unfold letters at this;rw[this];simp only[Zau,ht',decide_eq_true h1,decide_eq_true h2,Bool.true_and]
  ·rename_i ht
   have ht':¬s.all (λb=>Ze1 b||Zj1 b)=true:=λe=>ht ((ZpW s).2 e);simp only[Zau,Bool.eq_false_iff.2 ht',Bool.and_false,Bool.false_and]
 ·rename_i h
  rw[Qa] at h;have:¬(1<=s.length/\s.length<=8):=by omega
  rw[eq_comm];congr 1;rw[Bool.eq_false_iff];intro hh;simp only[Zau,Bool.and_eq_true,decide_eq_true_eq] at hh;omega
theorem Zk7 (l:List (List UInt8)) (s:List UInt8) (hl:l.length<=4611686018427387904):∃ r,XM l s=some r/\(0<=r<->s∈l):=by
 unfold XM;refine Xa l.length (λk v=>v.1=(k:Int)/\s ∉ l.take k) _ ⟨rfl,by simp⟩ ?_ ?_
 ·rintro k ⟨i,⟨⟩⟩ hk ⟨rfl,hS⟩
  have hx:l[k]?=some l[k]:=List.getElem?_eq_getElem hk;generalize l[k]=x at hx;simp only[XO,Zo,hx,Bq,show (k:Int)<(l.length:Int) from by omega,if_true,XG (show (-9223372036854775808:Int)<=(k:Int)+1 by omega) (by omega)];split
  ·rename_i e;subst e
   exact .inr ⟨_,rfl,λ_=>List.mem_of_getElem? hx,λ_=>by simp⟩
  ·rename_i e
   exact .inl ⟨_,rfl,by simp,by rw[Yp hx];simp[hS,e]⟩
 ·rintro ⟨i,⟨⟩⟩ ⟨rfl,hS⟩
  simp only[XO,Int.lt_irrefl,if_false];refine ⟨_,rfl,λh=>by omega,λh=>absurd h (by simpa using hS)⟩
theorem ZiL (l:List (List UInt8)) (s:List UInt8) (hl:l.length<=4611686018427387904):Xl l s=some (decide (s∈l)):=by
 obtain ⟨r,h1,h2⟩:=Zk7 l s hl;unfold Xl;rw[h1,Bq];simp only[h2]
def VY (l:List (List UInt8)) (k:Nat):Prop:=∀ (j:Nat) (s:List UInt8),j<k->l[j]?=some s->Zau s=true/\s ∉ l.take j
theorem Jm (l:List (List UInt8)) (hl:l.length<=4611686018427387904):Vg l=some (tr (VY l l.length)):=by
 unfold Vg;refine Ya l.length (λk v=>v.1=(k:Int)/\VY l k) _ ⟨rfl,λj s hj=>by omega⟩ ?_ ?_
 ·rintro k ⟨i,⟨⟩⟩ hk ⟨rfl,hS⟩
  have hx:l[k]?=some l[k]:=List.getElem?_eq_getElem hk;generalize l[k]=x at hx;simp only[Zbe,Zo,hx,Bq,show (k:Int)<(l.length:Int) from by omega,if_true,XG (show (-9223372036854775808:Int)<=(k:Int)+1 by omega) (by omega),Zh4];split
  ·rename_i hn
   rw[Zh (by omega),Zh (by omega)];simp only[Int.toNat_natCast,Int.toNat_zero,List.drop_zero,Nat.sub_zero];rw[ZiL _ _ (by simp only[List.length_take];omega),Bq];split
   ·rename_i hm
    right;rw[Yl];intro hh;exact (hh k x hk hx).2 (by simpa using hm)
   ·rename_i hm
    refine .inl ⟨_,rfl,by simp,λj s hj hs=>?_⟩;by_cases e:j<k
    ·exact hS j s e hs
    ·have:j=k:=by omega
     subst this;rw[hx] at hs;injection hs with hs;subst hs
     exact ⟨hn,by simpa using hm⟩
  ·rename_i hn
   right;rw[Yl];intro hh;exact hn (hh k x hk hx).1
 ·rintro ⟨i,⟨⟩⟩ ⟨rfl,hS⟩
  simp only[Zbe,Int.lt_irrefl,if_false];rw[Yt hS]
def allIn (l:List Int) (lo hi:Int):Bool:=l.all (λn=>within n lo hi)
theorem Zaj (l:List Int) (lo hi:Int) (hl:l.length<=4611686018427387904):Xp l lo hi=some (allIn l lo hi):=by
 have h1:∃ r,Yn l (lo,hi,())=some r/\(0<=r<->allIn l lo hi=false):=by
  unfold Yn;refine Xa l.length (λk v=>v.1=(k:Int)/\allIn (l.take k) lo hi=true) _ ⟨rfl,rfl⟩ ?_ ?_
  ·rintro k ⟨i,⟨⟩⟩ hk ⟨rfl,hS⟩
   have hx:l[k]?=some l[k]:=List.getElem?_eq_getElem hk;generalize l[k]=x at hx;simp only[Yw,ZcB,Js,Zo,hx,Bq,show (k:Int)<(l.length:Int) from by omega,if_true,XG (show (-9223372036854775808:Int)<=(k:Int)+1 by omega) (by omega)];cases hw:within x lo hi
   ·refine .inr ⟨_,rfl,λ_=>?_,λ_=>by simp⟩
    rw[allIn,List.all_eq_false];grind
   ·refine .inl ⟨_,rfl,by simp,?_⟩
    rw[Yp hx,allIn,List.all_append];simp only[allIn] at hS;simp[hS,hw]
  ·rintro ⟨i,⟨⟩⟩ ⟨rfl,hS⟩
   rw[List.take_length] at hS;simp only[Yw,Int.lt_irrefl,if_false];grind
 obtain ⟨r,h1,h2⟩:=h1;unfold Xp YD;grind
theorem XL {l:List ZE} {f:Bool×Unit} (hl:Len l) (p:ZE->Bool) (hp:∀ x∈l,QK x f.fst=some (p x)):Z0 l f=some (XI p l):=by
 unfold Z0;refine Zam (out:=λi=>i) hl (p:=p) (λk x hx=>?_) ?_
 ·have hk:=(List.getElem?_eq_some_iff.1 hx).1
  simp only[Yd,Zo,hx,Bq,show (k:Int)<(l.length:Int) from by omega,if_true,hp x (List.mem_of_getElem? hx)];split<;>rfl
 ·simp only[Yd,Int.lt_irrefl,if_false]
theorem XD {l:List ZE} {f:Bool×Unit} (hl:Len l) (p:ZE->Bool) (hp:∀ x∈l,QK x f.fst=some (p x)):ZT l f=some (l.any p):=by
 unfold ZT;rw[XL hl p hp,Bq];congr 1;rw[Bool.eq_iff_iff,decide_eq_true_eq,Zae]
theorem X4 {l:List YG} {f:Unit} (hl:Len l) (p:YG->Bool) (hp:∀ x∈l,ZbX x=some (p x)):Z9 l f=some (XI p l):=by
 unfold Z9;refine Zam (out:=λi=>i) hl (p:=p) (λk x hx=>?_) ?_
 ·have hk:=(List.getElem?_eq_some_iff.1 hx).1
  simp only[Yj,Zo,hx,Bq,show (k:Int)<(l.length:Int) from by omega,if_true,hp x (List.mem_of_getElem? hx)];split<;>rfl
 ·simp only[Yj,Int.lt_irrefl,if_false]
theorem XU {l:List ZQ} {f:ZQ×Unit} (hl:Len l) (p:ZQ->Bool) (hp:∀ x∈l,XR x f.fst=some (p x)):Z4 l f=some (XI p l):=by
 unfold Z4;refine Zam (out:=λi=>i) hl (p:=p) (λk x hx=>?_) ?_
 ·have hk:=(List.getElem?_eq_some_iff.1 hx).1
  simp only[Yf,Zo,hx,Bq,show (k:Int)<(l.length:Int) from by omega,if_true,hp x (List.mem_of_getElem? hx)];split<;>rfl
 ·simp only[Yf,Int.lt_irrefl,if_false]
theorem XF {l:List ZQ} {f:ZQ×Unit} (hl:Len l) (p:ZQ->Bool) (hp:∀ x∈l,XR x f.fst=some (p x)):ZX l f=some (l.any p):=by
 unfold ZX;rw[XU hl p hp,Bq];congr 1;rw[Bool.eq_iff_iff,decide_eq_true_eq,Zae]
theorem Qf {l:List ZQ} {f:Int×Unit} (hl:Len l) (p:ZQ->Bool) (hp:∀ x∈l,ZaX x f.fst=some (p x)):Yb l f=some (XI p l):=by
 unfold Yb;refine Zam (out:=λi=>i) hl (p:=p) (λk x hx=>?_) ?_
 ·have hk:=(List.getElem?_eq_some_iff.1 hx).1
  simp only[Yo,Zo,hx,Bq,show (k:Int)<(l.length:Int) from by omega,if_true,hp x (List.mem_of_getElem? hx)];split<;>rfl
 ·simp only[Yo,Int.lt_irrefl,if_false]
theorem XW {l:List ZQ} {f:Int×Unit} (hl:Len l) (p:ZQ->Bool) (hp:∀ x∈l,ZaX x f.fst=some (p x)):Z5 l f=some (l.any p):=by
 unfold Z5;rw[Qf hl p hp,Bq];congr 1;rw[Bool.eq_iff_iff,decide_eq_true_eq,Zae]
theorem XY {l:List Int} {f:Zc×Unit} (hl:Len l) (p:Int->Bool) (hp:∀ x∈l,Xo x f.fst=some (p x)):Z6 l f=some (XI p l):=by
 unfold Z6;refine Zam (out:=λi=>i) hl (p:=p) (λk x hx=>?_) ?_
 ·have hk:=(List.getElem?_eq_some_iff.1 hx).1
  simp only[Yh,Zo,hx,Bq,show (k:Int)<(l.length:Int) from by omega,if_true,hp x (List.mem_of_getElem? hx)];split<;>rfl
 ·simp only[Yh,Int.lt_irrefl,if_false]
theorem XH {l:List Int} {f:Zc×Unit} (hl:Len l) (p:Int->Bool) (hp:∀ x∈l,Xo x f.fst=some (p x)):ZY l f=some (l.any p):=by
 unfold ZY;rw[XY hl p hp,Bq];congr 1;rw[Bool.eq_iff_iff,decide_eq_true_eq,Zae]
theorem Vl {l:List Int} {f:Unit} (hl:Len l) (p:Int->Bool) (hp:∀ x∈l,ZaZ x=some (p x)):Yy l f=some (XI p l):=by
 unfold Yy;refine Zam (out:=λi=>i) hl (p:=p) (λk x hx=>?_) ?_
 ·have hk:=(List.getElem?_eq_some_iff.1 hx).1
  simp only[YH,Zo,hx,Bq,show (k:Int)<(l.length:Int) from by omega,if_true,hp x (List.mem_of_getElem? hx)];split<;>rfl
 ·simp only[YH,Int.lt_irrefl,if_false]
theorem QT {l:List Int} {f:Unit} (hl:Len l) (p:Int->Bool) (hp:∀ x∈l,ZaZ x=some (p x)):Yq l f=some (l.any p):=by
 unfold Yq;rw[Vl hl p hp,Bq];congr 1;rw[Bool.eq_iff_iff,decide_eq_true_eq,Zae]
theorem Y7 {l:List Zg} {f:Unit} (hl:Len l) (p:Zg->Bool) (hp:∀ x∈l,YW x=some (p x)):ZK l f=some (XI p l):=by
 unfold ZK;refine Zam (out:=λi=>i) hl (p:=p) (λk x hx=>?_) ?_
 ·have hk:=(List.getElem?_eq_some_iff.1 hx).1
  simp only[ZR,Zo,hx,Bq,show (k:Int)<(l.length:Int) from by omega,if_true,hp x (List.mem_of_getElem? hx)];split<;>rfl
 ·simp only[ZR,Int.lt_irrefl,if_false]
theorem Y1 {l:List Zg} {f:Unit} (hl:Len l) (p:Zg->Bool) (hp:∀ x∈l,YW x=some (p x)):ZG l f=some (l.any p):=by
 unfold ZG;rw[Y7 hl p hp,Bq];congr 1;rw[Bool.eq_iff_iff,decide_eq_true_eq,Zae]
theorem Zcy {a b:Bool} (h:a=true<->b=true):a=b:=by grind
theorem Zdl {P Q:Prop} (h:P<->Q):tr P=tr Q:=by rw[propext h]
def Inc (l:List Int):Prop:=∀ (k:Nat) (x y:Int),l[k]?=some x->l[k+1]?=some y->x<y
def Ze7 (l:List Int) (lo hi:Int):Prop:=∀ x∈l,lo<=x/\x<=hi
theorem ZiW (l:List Int) (lo hi:Int):allIn l lo hi=true<->Ze7 l lo hi:=by
 unfold allIn Ze7;rw[List.all_eq_true];simp only[Qa]
theorem Zaz (l:List Int):Y3 l=some (l.length:Int):=rfl
theorem ZhM (l:List Int) (hl:Len l):Zak l=some (tr (Inc l)):=by
 unfold Zak;have h4:l.length<=4611686018427387904:=hl;by_cases h0:l.length=0
 ·have:l=[]:=List.eq_nil_of_length_eq_zero h0
  subst this;rw[Zfl (r:=true) (by rfl)];have h0:Inc []:=λk x y h=>by simp at h
  rw[Yt h0]
 have:=ZrE (ρ:=Bool) 1 l.length (by omega) h4 (λk=>∀ x y,l[k-1]?=some x->l[k]?=some y->x<y) (step:=λv=>XJ l v.1) (bad:=false) (good:=true)
  (λk h1 h2 _=>by
   obtain ⟨x,hx⟩:∃ x,l[k-1]?=some x:=⟨_,List.getElem?_eq_getElem (by omega)⟩;obtain ⟨y,hy⟩:∃ y,l[k]?=some y:=⟨_,List.getElem?_eq_getElem h2⟩;have e1:Wq ((k:Int)-1)=((k-1:Nat):Int):=by rw[XG (by omega) (by omega)];omega
   simp only[XJ,show (k:Int)<(l.length:Int) from by omega,if_true,e1,Zo,hx,hy,Bq];grind)
  (λ_=>by simp only[XJ,Int.lt_irrefl,if_false])
 refine (show Zn (λv=>XJ l v.1) ((1:Int),())=_ from this).trans ?_;rw[ZmA];congr 1;refine Zdl ⟨λh k x y hx hy=>?_,λh j h1 h2 x y hx hy=>?_⟩
 ·exact h (k+1) (by omega) (List.getElem?_eq_some_iff.1 hy).1 x y (by simpa using hx) hy
 ·exact h (j-1) x y hx (by grind)
def ZdX (l:List Int):Prop:=1<=l.length/\l.length<=4/\Ze7 l 0 100000/\Inc l
theorem Zh3 (l:List Int) (hl:Len l):Zd7 l=some (tr (ZdX l)):=by
 unfold Zd7;rw[Zaz,Bq,Js,Bq,Zaj l _ _ hl,Bq,ZhM l hl,Bq];have e:tr (ZdX l)=(within (l.length:Int) 1 4&&allIn l 0 100000&&tr (Inc l)):=by
  refine Znz ?_;simp only[Bool.and_eq_true,Qa,ZiW,Xn,ZdX];grind
 grind
theorem Zhn (l:List Int) (hl:Len l):Zdr l=some (tr (ZdX l)):=by
 unfold Zdr;have h4:l.length<=4611686018427387904:=hl;rw[Je hl (λk x=>(0<=x/\x<=100000)/\(0<k->∀ y,l[k-1]?=some y->y<x)) (bad:=false) (good:=decide (1<=l.length/\l.length<=4))
  (λk x hx hk _=>by
   simp only[Zcl,show (k:Int)<(l.length:Int) from by omega,if_true,Zo,hx,Bq,Zck];by_cases hw:within x 0 100000=true
   ·rw[if_pos hw]
    by_cases h0:0<k
    ·obtain ⟨y,hy⟩:∃ y,l[k-1]?=some y:=⟨_,List.getElem?_eq_getElem (by omega)⟩
     have e1:Wq ((k:Int)-1)=((k-1:Nat):Int):=by rw[XG (by omega) (by omega)];omega
     rw[if_pos (by omega),e1,Zo,hy,Bq];refine ⟨λh=>?_,λh=>?_⟩
     ·grind
     ·rw[if_pos]
      rcases Int.lt_or_le y x with h' | h'
      ·exact absurd ⟨(Qa _ _ _).1 hw,λ_ z hz=>by grind⟩ h
      ·exact h'
    ·rw[if_neg (by omega)]
     exact ⟨λ_=>rfl,λh=>absurd ⟨(Qa _ _ _).1 hw,λh'=>absurd h' h0⟩ h⟩
   ·rw[if_neg hw]
    exact ⟨λh=>absurd ((Qa _ _ _).2 h.1) hw,λ_=>rfl⟩)
  (λ_=>by
   simp only[Zcl,Int.lt_irrefl,if_false];by_cases h1:1<=l.length
   ·rw[if_pos (by omega)]
    congr 2;grind
   grind)]
 congr 1;refine Zcy ?_;rw[Xn];by_cases h:Ze6 l (λk x=>(0<=x/\x<=100000)/\(0<k->∀ y,l[k-1]?=some y->y<x))
 ·rw[X9 h,decide_eq_true_eq]
  constructor
  ·rintro ⟨h1,h2⟩
   refine ⟨h1,h2,λx hx=>?_,λk x y hx hy=>?_⟩
   ·obtain ⟨k,hk⟩:=List.mem_iff_getElem?.1 hx
    exact (h k x hk).1
   ·exact (h (k+1) y hy).2 (by omega) x (by simpa using hx)
  ·intro hh
   exact ⟨hh.1,hh.2.1⟩
 ·rw[Xy h]
  constructor
  ·intro hh;cases hh
  ·intro hh
   refine absurd ?_ h;intro k x hk;refine ⟨hh.2.2.1 x (List.mem_of_getElem? hk),λh0 y hy=>?_⟩;exact hh.2.2.2 (k-1) y x hy (by grind)
def Zcx (t:ZE):Prop:=ZdX (ZE.ZhJ t)/\ZdX (ZE.Loads t)/\(ZE.Values t).length=(ZE.ZhJ t).length*(ZE.Loads t).length/\Ze7 (ZE.Values t) (-1000000) 1000000
def Zx7 (t:ZE):Prop:=Len (ZE.ZhJ t)/\Len (ZE.Loads t)/\Len (ZE.Values t)
theorem ZdX.mul {a b:List Int} (ha:ZdX a) (hb:ZdX b):a.length*b.length<=16:=by
 have h1:=ha.2.1;have h2:=hb.2.1
 calc a.length*b.length<=4*4:=Nat.mul_le_mul h1 h2
  _=16:=rfl
theorem ZrK {a b:List Int} (ha:ZdX a) (hb:ZdX b):Wq ((a.length:Int)*(b.length:Int))=((a.length*b.length:Nat):Int):=by
 have:=ha.mul hb;have e:(a.length:Int)*(b.length:Int)=((a.length*b.length:Nat):Int):=by simp
 rw[e,XG (by omega) (by omega)]
theorem ZlN (t:ZE) (h:Zx7 t):Zex t=some (tr (Zcx t)):=by
 unfold Zex;rw[Zh3 _ h.1,Bq];by_cases h1:ZdX (ZE.ZhJ t)
 ·rw[if_pos (Yt h1),Zh3 _ h.2.1,Bq]
  by_cases h2:ZdX (ZE.Loads t)
  ·rw[if_pos (Yt h2),ZrK h1 h2]
   by_cases h3:(ZE.Values t).length=(ZE.ZhJ t).length*(ZE.Loads t).length
   ·rw[if_pos (by rw[h3]),Zaj _ _ _ h.2.2,Bq]
    congr 1;refine Zcy ?_;rw[ZiW,Xn];exact ⟨λh4=>⟨h1,h2,h3,h4⟩,λh4=>h4.2.2.2⟩
   ·rw[if_neg (by omega),Yl (λhh=>h3 hh.2.2.1)]
  ·rw[if_neg (by rw[Yl h2];simp),Yl (λhh=>h2 hh.2.1)]
 ·rw[if_neg (by rw[Yl h1];simp),Yl (λhh=>h1 hh.1)]
theorem ZmH (t:ZE) (h:Zx7 t):ZeP t=some (tr (Zcx t)):=by
 unfold ZeP;rw[Zhn _ h.1,Bq];by_cases h1:ZdX (ZE.ZhJ t)
 ·rw[if_pos (Yt h1),Zhn _ h.2.1,Bq]
  by_cases h2:ZdX (ZE.Loads t)
  ·rw[if_pos (Yt h2),ZrK h1 h2]
   by_cases h3:(ZE.Values t).length=(ZE.ZhJ t).length*(ZE.Loads t).length
   ·rw[if_pos (by rw[h3]),Je h.2.2 (λk x=>-1000000<=x/\x<=1000000) (bad:=false) (good:=true)
     (λk x hx hk _=>by
      simp only[Zcj,show (k:Int)<((ZE.Values t).length:Int) from by omega,if_true,Zo,hx,Bq,Zck,Qa];grind)
     (λ_=>by simp only[Zcj,Int.lt_irrefl,if_false]),ZmA]
    congr 1;refine Zdl ⟨λh4=>⟨h1,h2,h3,λx hx=>?_⟩,λh4 k x hx=>h4.2.2.2 x (List.mem_of_getElem? hx)⟩;obtain ⟨k,hk⟩:=List.mem_iff_getElem?.1 hx;exact h4 k x hk
   ·rw[if_neg (by omega),Yl (λhh=>h3 hh.2.2.1)]
  ·rw[if_neg (by rw[Yl h2];simp),Yl (λhh=>h2 hh.2.1)]
 ·rw[if_neg (by rw[Yl h1];simp),Yl (λhh=>h1 hh.1)]
theorem ZoQ (x:Int) (l:List Int) (hl:Len (x::l)):QH (x::l)=some (l.foldl min x):=by
 unfold QH;have h4:(x::l).length<=4611686018427387904:=hl;have e1:¬(((x::l).length:Int)<1):=by grind
 have e2:atI (x::l) (0:Int)=some x:=rfl;rw[if_neg e1,e2,Bq];refine Ya l.length (λk v=>v.1=(l.take k).foldl min x/\v.2.1=(((k+1:Nat)):Int)) _ ⟨by simp,rfl⟩ ?_ ?_
 ·rintro k ⟨m,i,⟨⟩⟩ hk ⟨hm,hi⟩
  simp only at hm hi;subst hm;subst hi;have hx:l[k]?=some l[k]:=List.getElem?_eq_getElem hk;have hx1:(x::l)[k+1]?=some l[k]:=by simp
  simp only[Qu,Zo,hx1,Bq,show ((k+1:Nat):Int)<((x::l).length:Int) from by simp;omega,if_true];refine .inl ⟨_,rfl,?_,?_⟩
  ·rw[Yp hx,List.foldl_append];rfl
  ·simp only[List.length_cons] at h4
   show Wq (((k+1:Nat):Int)+1)=((k+1+1:Nat):Int);rw[XG (by omega) (by omega)];omega
 ·rintro ⟨m,i,⟨⟩⟩ ⟨hm,hi⟩
  simp only at hm hi;subst hm;subst hi;rw[List.take_length];simp only[Qu,show ¬(((l.length+1:Nat):Int)<((x::l).length:Int)) from by simp,if_false]
theorem Zi5 (x:Int) (l:List Int):l.foldl min x<0<->x<0\/∃ y∈l,y<0:=by
 induction l generalizing x with
 | nil=>simp
 | cons y r ih =>
  simp only[List.foldl_cons,ih,List.mem_cons,exists_eq_or_imp];grind
def Zdm (l:List ZE) (pos:Bool):Prop:=l.length=2/\∀ t∈l,Zcx t/\(pos=true->∀ v∈ZE.Values t,0<=v)
theorem Zcx.some {t:ZE} (h:Zcx t):∃ x l,ZE.Values t=x::l:=by
 have h1:=h.1.1;have h2:=h.2.1.1;have h3:=h.2.2.1;have:1*1<=(ZE.ZhJ t).length*(ZE.Loads t).length:=Nat.mul_le_mul h1 h2;cases hv:ZE.Values t with
 | nil=>grind
 | cons x l=>exact ⟨x,l,rfl⟩
theorem ZhK (t:ZE) (pos:Bool) (h:Zx7 t):QK t pos=some (! tr (Zcx t/\(pos=true->∀ v∈ZE.Values t,0<=v))):=by
 unfold QK;rw[ZlN _ h,Bq];by_cases h1:Zcx t
 ·rw[if_pos (Yt h1)]
  cases pos
  ·rw[if_neg (by simp),Yt ⟨h1,λe=>by cases e⟩];rfl
  ·obtain ⟨x,l,hv⟩:=h1.some
   have hlen:=h.2.2;rw[if_pos rfl,hv];rw[hv] at hlen;rw[ZoQ x l hlen,Bq];congr 1;refine Zcy ?_;rw[decide_eq_true_eq,Zi5,Bool.not_eq_true',<-Bool.not_eq_true,Xn];constructor
   ·rintro (hh | ⟨y,hy,hh⟩) ⟨_,hall⟩
    ·have:=hall rfl x (by simp);omega
    grind
   grind
 ·rw[if_neg (by rw[Yl h1];simp),Yl (λhh=>h1 hh.1)];rfl
def ZwE (l:List ZE):Prop:=Len l/\∀ t∈l,Zx7 t
theorem ZcA (l:List ZE) (pos:Bool) (h:ZwE l):Jr l pos=some (tr (Zdm l pos)):=by
 unfold Jr;by_cases h2:l.length=2
 ·rw[if_pos (by omega),XD h.1 (λt=>! tr (Zcx t/\(pos=true->∀ v∈ZE.Values t,0<=v))) (λt ht=>ZhK t pos (h.2 t ht)),Bq]
  congr 1;refine Zcy ?_;rw[Bool.not_eq_true',List.any_eq_false,Xn];simp only[Bool.not_eq_true',Bool.not_eq_false,Xn,Bool.not_eq_true];exact ⟨λhh=>⟨h2,hh⟩,λhh=>hh.2⟩
 ·rw[if_neg (by omega),Yl (λhh=>h2 hh.1)]
theorem Zhz {α τ ρ:Type} {l:List α} (pk:Nat->τ) (P:Nat->α->Prop) {step:τ->Option (τ ⊕ ρ)} {bad good:ρ}
  (hs:∀ (k:Nat) (x:α),l[k]?=some x->k<l.length->(∀ (j:Nat) (y:α),j<k->l[j]?=some y->P j y)->(P k x->step (pk k)=some (.inl (pk (k+1))))/\(¬P k x->step (pk k)=some (.inr bad)))
  (hx:Ze6 l P->step (pk l.length)=some (.inr good)):Zn step (pk 0)=some (sel (Ze6 l P) good bad):=by
 refine Ya l.length (λk v=>v=pk k/\∀ (j:Nat) (y:α),j<k->l[j]?=some y->P j y) _ ⟨rfl,λj y hj=>by omega⟩ ?_ ?_
 ·rintro k v hk ⟨rfl,hS⟩
  have hx:l[k]?=some l[k]:=List.getElem?_eq_getElem hk;obtain ⟨h1,h2⟩:=hs k _ hx hk hS;by_cases hP:P k l[k]
  ·grind
  ·right
   rw[h2 hP,Xy (λh=>hP (h k _ hx))]
 ·rintro v ⟨rfl,hS⟩
  have hA:Ze6 l P:=λk x hk=>hS k x (List.getElem?_eq_some_iff.1 hk).1 hk;rw[hx hA,X9 hA]
theorem YO {α τ ρ:Type} {l:List α} (pk:Nat->τ) {step:τ->Option (τ ⊕ ρ)} {good:ρ}
  (hs:∀ (k:Nat) (x:α),l[k]?=some x->k<l.length->step (pk k)=some (.inl (pk (k+1)))) (hx:step (pk l.length)=some (.inr good)):Zn step (pk 0)=some good:=by
 have:=Zhz (l:=l) pk (λ_ _=>True) (step:=step) (bad:=good) (good:=good) (λk x h1 h2 _=>⟨λ_=>hs k x h1 h2,λh=>absurd trivial h⟩) (λ_=>hx);rw[this,X9 (show Ze6 l (λ_ _=>True) from λ_ _ _=>trivial)]
theorem Zmj {ρ:Type} (n:Nat) (hn:n<=4611686018427387904) (P:Nat->Prop) {step:Int×Unit->Option ((Int×Unit) ⊕ ρ)} {bad good:ρ}
  (hs:∀ k:Nat,k<n->(P k->step ((k:Int),())=some (.inl (Wq ((k:Int)+1),())))/\(¬P k->step ((k:Int),())=some (.inr bad)))
  (hx:(∀ j,j<n->P j)->step ((n:Int),())=some (.inr good)):Zn step ((0:Int),())=some (sel (∀ j,j<n->P j) good bad):=by
 have:=ZrE (ρ:=ρ) 0 n (by omega) hn P (step:=step) (bad:=bad) (good:=good) (λk _ h _=>hs k h) (λh=>hx (λj hj=>h j (by omega) hj));grind
theorem XB {t:Ty} {l:List t.den} (h:sm (.sl t) l):Len l:=by
 have h1:(l.length:Int)<=1048576:=h.1;show l.length<=4611686018427387904;omega
theorem Zhr {s:List UInt8} (h:sm .str s):s.length<=4611686018427387904:=by
 have h1:(s.length:Int)<=1048576:=h;omega
theorem ZpP {t:Ty} {l:List t.den} (h:sm (.sl t) l) {x:t.den} (hx:x∈l):sm t x:=h.2 x hx
theorem Zie {t:Ty} {l:List t.den} (h:sm (.sl t) l) {k:Nat} {x:t.den} (hx:l[k]?=some x):sm t x:=h.2 x (List.mem_of_getElem? hx)
theorem ZN {t:Ty} {l:List t.den} (h:sm (.sl t) l):l.length<=1048576:=by
 have h1:(l.length:Int)<=1048576:=h.1;omega
theorem ZsN {t:ZE} (h:sm YV t):Zx7 t:=⟨XB (t:=.int .i64) h.1,XB (t:=.int .i64) h.2.1,XB (t:=.int .i64) h.2.2.1⟩
theorem ZfZ {l:List ZE} (h:sm (.sl YV) l):ZwE l:=⟨XB h,λt ht=>ZsN (ZpP h ht)⟩
theorem ZiM (t:ZE) (h:Zx7 t):∃ r,Zba t=some r/\(Zcx t->r.2=0/\(r.1.1<0<->∃ v∈ZE.Values t,v<0))/\(¬Zcx t->r.2=1):=by
 unfold Zba;rw[ZmH _ h,Bq];by_cases h1:Zcx t
 ·rw[if_pos (Yt h1)]
  obtain ⟨x,l,hv⟩:=h1.some;have h4:(x::l).length<=4611686018427387904:=by rw[<-hv];exact h.2.2
  have e2:atI (ZE.Values t) (0:Int)=some x:=by rw[hv];rfl
  rw[e2,Bq];have:=YO (l:=l) (ρ:=Zp7×Int) (λk=>((((k+1:Nat)):Int),(l.take k).foldl min x,(l.take k).foldl max x,())) (step:=λv=>QY t v.1 v.2.1 v.2.2.1) (good:=((l.foldl min x,l.foldl max x,()),0))
   (λk y hy hk=>by
    have hx1:(x::l)[k+1]?=some y:=by simpa using hy
    simp only[List.length_cons] at h4;simp only[QY,hv,Zo,hx1,Bq,show ((k+1:Nat):Int)<((x::l).length:Int) from by simp;omega,if_true];rw[Yp hy,List.foldl_append,List.foldl_append,XG (by omega) (by omega)];rfl)
   (by
    simp only[QY,hv,List.take_length,show ¬(((l.length+1:Nat):Int)<((x::l).length:Int)) from by simp,if_false])
  refine ⟨_,this,λ_=>⟨rfl,?_⟩,λhn=>absurd h1 hn⟩;rw[hv];refine (Zi5 x l).trans ?_;simp
 ·rw[if_neg (by rw[Yl h1];simp)]
  grind
theorem ZcQ (l:List ZE) (pos:Bool) (h:ZwE l):YF l pos=some (tr (Zdm l pos)):=by
 unfold YF;by_cases h2:l.length=2
 ·rw[if_pos (by omega),Je h.1 (λk t=>Zcx t/\(pos=true->∀ v∈ZE.Values t,0<=v)) (bad:=false) (good:=true)
   (λk t hx hk _=>by
    obtain ⟨r,hr,hr1,hr2⟩:=ZiM t (h.2 t (List.mem_of_getElem? hx));simp only[ZaG,show (k:Int)<2 from by omega,if_true,Zo,hx,Bq,hr];by_cases ht:Zcx t;all_goals grind)
   (λ_=>by simp only[ZaG,h2];rfl),ZmA]
  congr 1;refine Zdl ⟨λhh=>⟨h2,λt ht=>?_⟩,λhh k t hk=>hh.2 t (List.mem_of_getElem? hk)⟩;obtain ⟨k,hk⟩:=List.mem_iff_getElem?.1 ht;exact hh k t hk
 ·rw[if_neg (by omega),Yl (λhh=>h2 hh.1)]
def ZdD (l:List YG):List (List UInt8):=l.map YG.Name
def Zk4 (l:List YG):Nat:=l.countP (λp=>YG.Clock p)
def Zo5 (n k:Nat) (p:YG):Prop:=(0<=YG.Cap p/\YG.Cap p<=500)/\(k+1=n->YG.Dir p=2/\YG.Cap p=0/\YG.Clock p=false)/\(k+1<n->YG.Dir p=1)
def ZhU (l:List YG):Prop:=2<=l.length/\l.length<=5/\VY (ZdD l) l.length/\Ze6 l (Zo5 l.length)
theorem ZlP (l:List YG) (h:sm (.sl Zdh) l):Zey l=some (tr (ZhU l)):=by
 unfold Zey;have hs:=ZN h;have:=Zhz (l:=l) (ρ:=Bool) (λk=>((ZdD l).take k,(k:Int),())) (Zo5 l.length) (step:=λv=>Vh l v.1 v.2.1) (bad:=false) (good:=tr (2<=l.length/\l.length<=5/\VY (ZdD l) l.length))
  (λk p hx hk _=>by
   have hn:(ZdD l)[k]?=some (YG.Name p):=by simp[ZdD,hx]
   have e1:Wq ((l.length:Int)-1)=((l.length-1:Nat):Int):=by rw[XG (by omega) (by omega)];omega
   simp only[Vh,show (k:Int)<(l.length:Int) from by omega,if_true,Zo,hx,Bq,e1];rw[Zh (by grind),Yp hn,XG (by omega) (by omega)];unfold Zo5;by_cases hlast:(k:Int)=((l.length-1:Nat):Int)
   ·grind
   ·rw[if_neg hlast,Js]
    have hk1:k+1<l.length:=by omega
    simp only[Bq,Qa];grind)
  (λhA=>by
   have e0:(ZdD l).take l.length=ZdD l:=by rw[show l.length=(ZdD l).length by simp[ZdD],List.take_length]
   simp only[Vh,Int.lt_irrefl,if_false,e0,Js,Bq,show Vw l=some (l.length:Int) from rfl];have hlen:(ZdD l).length=l.length:=by simp[ZdD]
   by_cases hw:within (l.length:Int) 2 5=true
   ·rw[if_pos hw,Jm _ (by rw[hlen];omega),Bq,hlen]
    rw[Qa] at hw;grind
   ·rw[if_neg hw,Yl]
    intro hh;exact hw ((Qa _ _ _).2 (by omega)))
 refine (show Zn (λv=>Vh l v.1 v.2.1) (([]:List (List UInt8)),(0:Int),())=_ from this).trans ?_;congr 1;refine Zcy ?_;rw[Xn];by_cases hA:Ze6 l (Zo5 l.length)
 ·rw[X9 hA,Xn]
  exact ⟨λhh=>⟨hh.1,hh.2.1,hh.2.2,hA⟩,λhh=>⟨hh.1,hh.2.1,hh.2.2.1⟩⟩
 ·rw[Xy hA]
  exact ⟨λhh=>(by cases hh),λhh=>absurd hh.2.2.2 hA⟩
theorem Zky {n:Nat} (h:n<=1048576) (h1:1<=n):Wq ((n:Int)-1)=((n-1:Nat):Int):=by rw[XG (by omega) (by omega)];omega
theorem Xj {n:Nat} (h:n<=1048576):Wq ((n:Int)+1)=((n+1:Nat):Int):=by rw[XG (by omega) (by omega)];omega
theorem Zia {l:List YG} {k:Nat} {s:List UInt8}:s ∉ (ZdD l).take k<->∀ (j:Nat) (q:YG),j<k->l[j]?=some q->YG.Name q≠s:=by
 constructor
 ·intro h j q hj hq e
  refine h (List.mem_iff_getElem?.2 ⟨j,?_⟩);rw[List.getElem?_take,if_pos hj];simp[ZdD,hq,e]
 ·intro h hm
  obtain ⟨j,hj⟩:=List.mem_iff_getElem?.1 hm;rw[List.getElem?_take] at hj;split at hj
  ·rename_i hjk
   simp only[ZdD,List.getElem?_map,Option.map_eq_some_iff] at hj;obtain ⟨q,hq,e⟩:=hj;exact h j q hjk hq e
  ·cases hj
theorem ZmI (c:Zm) (h:sm (.sl Zdh) (Zm.YR c)):ZeR c=some (sel (ZhU (Zm.YR c)) ((Zk4 (Zm.YR c):Int),true) ((0:Int),false)):=by
 unfold ZeR;have hs:=ZN h;by_cases h2:((Zm.YR c).length:Int)<2
 ·rw[if_pos h2,Xy (λhh=>by have:=hh.1;omega)]
 by_cases h5:(5:Int)<((Zm.YR c).length:Int)
 ·rw[if_neg h2,if_pos h5,Xy (λhh=>by have:=hh.2.1;omega)]
 rw[if_neg h2,if_neg h5];have e1:Wq (((Zm.YR c).length:Int)-1)=(((Zm.YR c).length-1:Nat):Int):=Zky hs (by omega);have:=Zhz (l:=Zm.YR c) (ρ:=Int×Bool) (λk=>((((Zm.YR c).take k).countP (λp=>YG.Clock p):Int),(k:Int),()))
  (λk p=>(Zau (YG.Name p)=true/\∀ (j:Nat) (q:YG),j<k->(Zm.YR c)[j]?=some q->YG.Name q≠YG.Name p)/\Zo5 (Zm.YR c).length k p) (step:=λv=>Vm c v.1 v.2.1) (bad:=((0:Int),false)) (good:=((Zk4 (Zm.YR c):Int),true))
  (λk p hx hk _=>by
   have hcnt:((Zm.YR c).take k).countP (λp=>YG.Clock p)<=5:=by
    have h1:=List.countP_le_length (p:=λp=>YG.Clock p) (l:=(Zm.YR c).take k);rw[List.length_take] at h1;omega
   have hnext:((Zm.YR c).take (k+1)).countP (λp=>YG.Clock p)=((Zm.YR c).take k).countP (λp=>YG.Clock p)+if YG.Clock p=true then 1 else 0:=by
    rw[Yp hx,List.countP_append];simp[List.countP_cons]
   have hname:(YG.Name p).length<=4611686018427387904:=Zhr (Zie h hx).1;have rest:∀ (v:Int),Qs c v (k:Int) p (k:Int)=sel (Zau (YG.Name p)=true/\Zo5 (Zm.YR c).length k p) (some (Sum.inr (Sum.inl (if YG.Clock p=true then Wq (v+1) else v,((k+1:Nat):Int),())))) (some (Sum.inr (Sum.inr (0,false)))):=by
    intro v;simp only[Qs,Int.lt_irrefl,if_false,Zek _ hname,Zck,Bq,e1,Xj (show k<=1048576 by omega),Qa];unfold Zo5;by_cases hn:Zau (YG.Name p)=true
    ·by_cases hcap:0<=YG.Cap p/\YG.Cap p<=500
     ·by_cases hlast:k+1=(Zm.YR c).length
      ·have e2:(k:Int)=(((Zm.YR c).length-1:Nat):Int):=by omega
       have e3:¬((k:Int)<(((Zm.YR c).length-1:Nat):Int)):=by omega
       have e4:¬(k+1<(Zm.YR c).length):=by omega
       rw[if_pos hn,if_pos hcap,if_pos e2];by_cases a:YG.Dir p=2
       ·by_cases b:YG.Cap p=0
        ·by_cases d:YG.Clock p=true
         ·rw[if_pos a,if_pos b,if_pos d,Xy]
          rintro ⟨_,_,h',_⟩;have:=(h' hlast).2.2;rw[d] at this;cases this
         ·rw[if_pos a,if_pos b,if_neg d,if_neg e3,if_neg d,X9 ⟨hn,hcap,λ_=>⟨a,b,by simpa using d⟩,λh'=>absurd h' e4⟩]
          simp[d]
        ·rw[if_pos a,if_neg b,Xy]
         rintro ⟨_,_,h',_⟩;exact b (h' hlast).2.1
       ·rw[if_neg a,Xy]
        rintro ⟨_,_,h',_⟩;exact a (h' hlast).1
      ·have e2:¬(k:Int)=(((Zm.YR c).length-1:Nat):Int):=by omega
       have e3:(k:Int)<(((Zm.YR c).length-1:Nat):Int):=by omega
       have e4:k+1<(Zm.YR c).length:=by omega
       rw[if_pos hn,if_pos hcap,if_neg e2,if_pos e3];by_cases a:YG.Dir p=1
       ·rw[if_pos a,X9 ⟨hn,hcap,λh'=>absurd h' hlast,λ_=>a⟩]
        by_cases d:YG.Clock p=true
        ·rw[if_pos d,if_pos d]
        ·rw[if_neg d,if_neg d]
       ·rw[if_neg a,Xy]
        rintro ⟨_,_,_,h'⟩;exact a (h' e4)
     ·rw[if_pos hn,if_neg hcap,Xy (λhh=>hcap hh.2.1)]
    ·rw[if_neg hn,Xy (λhh=>hn hh.1)]
   have inner:∀ (v:Int) (good:(Int×Int×Unit) ⊕ (Int×Bool)),((∀ (j:Nat) (q:YG),j<k->(Zm.YR c)[j]?=some q->YG.Name q≠YG.Name p)->Qs c v (k:Int) p (k:Int)=some (.inr good))->
     Zn (λv'=>Qs c v (k:Int) p v'.1) ((0:Int),())=some (sel (∀ j,j<k->∀ q,(Zm.YR c)[j]?=some q->YG.Name q≠YG.Name p) good (.inr (0,false))):=by
    intro v good hg;refine Zmj k (by omega) (λj=>∀ q,(Zm.YR c)[j]?=some q->YG.Name q≠YG.Name p) (λj hj=>?_) (λhh=>hg (λj q hj hq=>hh j hj q hq));obtain ⟨q,hq⟩:∃ q,(Zm.YR c)[j]?=some q:=⟨_,List.getElem?_eq_getElem (by omega)⟩;simp only[Qs,show (j:Int)<(k:Int) from by omega,if_true,Zo,hq,Bq];refine ⟨λhh=>by rw[if_neg (hh q rfl)],λhh=>?_⟩;rw[if_pos];apply Classical.byContradiction;intro hne;exact hh (λq' hq'=>by injection hq' with hq';subst hq';exact hne)
   simp only[Vm,show (k:Int)<((Zm.YR c).length:Int) from by omega,if_true,Zo,hx,Bq];constructor
   ·rintro ⟨⟨a,b⟩,d⟩
    rw[inner _ (.inl (((((Zm.YR c).take (k+1)).countP (λp=>YG.Clock p):Nat):Int),((k+1:Nat):Int),())) (λ_=>by
     rw[rest,X9 ⟨a,d⟩,hnext];by_cases hc:YG.Clock p=true
     ·rw[if_pos hc,if_pos hc,Xj (by omega)]
     ·rw[if_neg hc,if_neg hc];rfl),X9 (λj hj q hq=>b j q hj hq)]
   ·intro hh
    rw[inner _ (.inr (0,false)) (λhn=>by
     rw[rest,Xy (λh'=>hh ⟨⟨h'.1,hn⟩,h'.2⟩)])]
    by_cases hP:∀ j,j<k->∀ q,(Zm.YR c)[j]?=some q->YG.Name q≠YG.Name p
    ·rw[X9 hP]
    ·rw[Xy hP])
  (λ_=>by simp only[Vm,Int.lt_irrefl,if_false,List.take_length];rfl)
 refine (show Zn (λv=>Vm c v.1 v.2.1) ((0:Int),(0:Int),())=_ from this).trans ?_;congr 1;have e:Ze6 (Zm.YR c) (λk p=>(Zau (YG.Name p)=true/\∀ (j:Nat) (q:YG),j<k->(Zm.YR c)[j]?=some q->YG.Name q≠YG.Name p)/\Zo5 (Zm.YR c).length k p)<->ZhU (Zm.YR c):=by
  constructor
  ·intro hA
   refine ⟨by omega,by omega,λj s hj hs'=>?_,λk p hp=>(hA k p hp).2⟩;simp only[ZdD,List.getElem?_map,Option.map_eq_some_iff] at hs';obtain ⟨q,hq,rfl⟩:=hs';exact ⟨(hA j q hq).1.1,Zia.2 (hA j q hq).1.2⟩
  ·intro hh k p hp
   have hk:=(List.getElem?_eq_some_iff.1 hp).1;have hn:=hh.2.2.1 k (YG.Name p) hk (by simp[ZdD,hp]);exact ⟨⟨hn.1,Zia.1 hn.2⟩,hh.2.2.2 k p hp⟩
 rw[propext e]
def Zoa (l:List YG) (i:Int):Bool:=match l[i.toNat]? with
 | some p=>YG.Clock p
 | none=>false
def ZjN (c:Zm) (a:ZQ):Prop :=
  (0<=ZQ.From a/\ZQ.From a<=((Zm.YR c).length:Int)-2)/\(0<=ZQ.To a/\ZQ.To a<=((Zm.YR c).length:Int)-1)/\
  ((ZQ.Kind a=1/\Zoa (Zm.YR c) (ZQ.From a)=false/\ZQ.To a=((Zm.YR c).length:Int)-1/\(1<=ZQ.Zcu a/\ZQ.Zcu a<=3)/\Zdm (ZQ.Delay a) true/\Zdm (ZQ.ZiV a) true)\/
   ((ZQ.Kind a=2\/ZQ.Kind a=3)/\Zoa (Zm.YR c) (ZQ.From a)=true/\ZQ.To a=((Zm.YR c).length:Int)-1/\ZQ.Zcu a=0/\Zdm (ZQ.Delay a) true/\Zdm (ZQ.ZiV a) true)\/
   ((ZQ.Kind a=4\/ZQ.Kind a=5)/\Zoa (Zm.YR c) (ZQ.From a)=true/\ZQ.To a<((Zm.YR c).length:Int)-1/\Zoa (Zm.YR c) (ZQ.To a)=false/\ZQ.Zcu a=0/\Zdm (ZQ.Delay a) false/\(ZQ.ZiV a).length=0))
theorem ZjN.kind {c:Zm} {a:ZQ} (h:ZjN c a):1<=ZQ.Kind a/\ZQ.Kind a<=5:=by
 rcases h.2.2 with h | h | h
 all_goals grind
theorem XE {P Q:Prop} {_:Decidable P} {m:Option Bool} (hm:P->m=some (tr Q)):(if P then m else some false)=some (tr (P/\Q)):=by
 by_cases h:P
 ·grind
 ·rw[if_neg h,Yl (λq=>h q.1)]
theorem Zfo {P Q:Prop} {_:Decidable P} {m:Option Bool} (hm:¬P->m=some (tr Q)):(if P then some false else m)=some (tr (¬P/\Q)):=by
 by_cases h:P
 ·rw[if_pos h,Yl (λq=>q.1 h)]
 grind
theorem Zdz {P:Prop} {b:Bool} (h:b=true<->P):some b=some (tr P):=by rw[Znz h]
theorem Zd5 {m:Option Bool} {P Q:Prop} (h:m=some (tr P)) (hpq:P<->Q):m=some (tr Q):=by rw[h,propext hpq]
theorem ZnZ {Q:Prop} (h:¬Q):(some false:Option Bool)=some (tr Q):=by rw[Yl h]
theorem ZjO {P:Prop} {m:Option Bool} (h:m=some (tr P)):(m.bind λb=>some b)=some (tr P):=by rw[h];rfl
theorem Xk {P Q:Prop} {m m2:Option Bool} (h:m=some (tr P)) (h2:P->m2=some (tr Q)):(m.bind λb=>if b=true then m2 else some false)=some (tr (P/\Q)):=by
 rw[h,Bq];by_cases hp:P
 ·rw[if_pos (Yt hp),h2 hp];grind
 ·rw[if_neg (by rw[Yl hp];simp),Yl (λq=>hp q.1)]
theorem Vx (n a b:Int):YB n a b=some (tr (a<=n/\n<=b)):=by rw[Zck];exact Zdz (Qa _ _ _)
theorem Jo (n a b:Int):YN n a b=some (tr (a<=n/\n<=b)):=by rw[Js];exact Zdz (Qa _ _ _)
theorem Zt8 {l:List YG} {i:Int} (h0:0<=i) (h1:i<l.length):∃ p,atI l i=some p/\Zoa l i=YG.Clock p:=by
 obtain ⟨p,h2,h3⟩:=Zq2 h0 h1;exact ⟨p,h2,by simp[Zoa,h3]⟩
theorem Znw (c:Zm) (a:ZQ) (hp:sm (.sl Zdh) (Zm.YR c)) (hd:sm (.sl YV) (ZQ.Delay a)) (hw:sm (.sl YV) (ZQ.ZiV a)) (h2:2<=(Zm.YR c).length):ZfT c a=some (tr (ZjN c a)):=by
 unfold ZfT;have hs:=ZN hp;have e1:Wq (((Zm.YR c).length:Int)-1)=((Zm.YR c).length:Int)-1:=XG (by omega) (by omega);have e2:Wq (((Zm.YR c).length:Int)-1-1)=((Zm.YR c).length:Int)-2:=by rw[XG (by omega) (by omega)];omega
 rw[e1,e2];refine Zd5 (Xk (Vx _ _ _) (λhF=>Xk (Vx _ _ _) (λhT=>?_))) (Q:=ZjN c a) (P:=(0<=ZQ.From a/\ZQ.From a<=((Zm.YR c).length:Int)-2)/\(0<=ZQ.To a/\ZQ.To a<=((Zm.YR c).length:Int)-1)/\ZjN c a) ⟨λhh=>hh.2.2,λhh=>⟨hh.1,hh.2.1,hh⟩⟩;obtain ⟨p,hp1,hp2⟩:=Zt8 (l:=Zm.YR c) hF.1 (by omega);rw[hp1,Bq];have hdl:=ZfZ hd;have hsl:=ZfZ hw;have tt:∀ b,(YF (ZQ.Delay a) b).bind (λx=>if x=true then (YF (ZQ.ZiV a) b).bind (λy=>some y) else some false)=some (tr (Zdm (ZQ.Delay a) b/\Zdm (ZQ.ZiV a) b)):=λb=>Xk (ZcQ _ _ hdl) (λ_=>ZjO (ZcQ _ _ hsl));have tz:(YF (ZQ.Delay a) false).bind (λx=>if x=true then some (Decidable.decide (((ZQ.ZiV a).length:Int)=(0:Int))) else some false)=some (tr (Zdm (ZQ.Delay a) false/\(ZQ.ZiV a).length=0)):=Xk (ZcQ _ _ hdl) (λ_=>Zdz (by grind));unfold ZjN;rw[hp2];by_cases k1:ZQ.Kind a=1
 ·simp only[k1,if_true]
  refine Zd5 (Zfo (λhc=>XE (λhl=>Xk (Vx _ _ _) (λ_=>tt true)))) ?_;grind
 by_cases k2:ZQ.Kind a=2
 ·simp only[k2,if_true,Int.reduceEq,if_false]
  refine Zd5 (XE (λhc=>XE (λhl=>XE (λ_=>tt true)))) ?_;grind
 by_cases k3:ZQ.Kind a=3
 ·simp only[k3,if_true,Int.reduceEq,if_false]
  refine Zd5 (XE (λhc=>XE (λhl=>XE (λ_=>tt true)))) ?_;grind
 have chk:(if YG.Clock p=true then (if ZQ.To a<((Zm.YR c).length:Int)-1 then (atI (Zm.YR c) (ZQ.To a)).bind (λx1=>if YG.Clock x1=true then some false else if ZQ.Zcu a=0 then (YF (ZQ.Delay a) false).bind (λx=>if x=true then some (Decidable.decide (((ZQ.ZiV a).length:Int)=(0:Int))) else some false) else some false) else some false) else some false) =
   some (tr (YG.Clock p=true/\ZQ.To a<((Zm.YR c).length:Int)-1/\Zoa (Zm.YR c) (ZQ.To a)=false/\ZQ.Zcu a=0/\Zdm (ZQ.Delay a) false/\(ZQ.ZiV a).length=0)):=by
  refine XE (λ_=>XE (λhl=>?_));obtain ⟨q,hq1,hq2⟩:=Zt8 (l:=Zm.YR c) hT.1 (by omega);rw[hq1,Bq,hq2];refine Zd5 (Zfo (λ_=>XE (λ_=>tz))) ?_;grind
 by_cases k4:ZQ.Kind a=4
 ·grind
 by_cases k5:ZQ.Kind a=5
 ·grind
 ·simp only[k1,k2,k3,k4,k5,if_false]
  refine ZnZ ?_;grind
def Zii (l:List YG):Int:=XI (λp=>YG.Clock p) l
theorem Zi7 (c:Zm) (h:sm (.sl Zdh) (Zm.YR c)):ZbW c=some (Zii (Zm.YR c)):=by
 unfold ZbW;rw[X4 (XB h) (λp=>YG.Clock p) (λp _=>rfl),Bq];rfl
theorem Zbd (c:Zm) (h:sm (.sl Zdh) (Zm.YR c)):Jl c=some (((Zm.YR c).length:Int)-1):=by
 have hs:=ZN h;show some (Wq (((Zm.YR c).length:Int)-1))=_;rw[XG (by omega) (by omega)]
theorem ZdA (c:Zm) (i:Int) (h:sm (.sl Zdh) (Zm.YR c)):VF c i=some (tr (0<=i/\i<=((Zm.YR c).length:Int)-2)):=by
 have hs:=ZN h;unfold VF;rw[Zbd c h,Bq,XG (by omega) (by omega)];refine Zd5 (ZjO (Jo _ _ _)) ?_;omega
def ZuS (c:Zm) (a:ZQ):Prop :=
 ((ZQ.Kind a=4\/ZQ.Kind a=5)/\ZQ.Zcu a=0/\(ZQ.ZiV a).length=0/\Zdm (ZQ.Delay a) false/\ZQ.From a=Zii (Zm.YR c)/\0<=ZQ.From a/\(0<=ZQ.To a/\ZQ.To a<=((Zm.YR c).length:Int)-2)/\ZQ.To a≠ZQ.From a)\/
 (¬(ZQ.Kind a=4\/ZQ.Kind a=5)/\Zdm (ZQ.Delay a) true/\Zdm (ZQ.ZiV a) true/\ZQ.To a=((Zm.YR c).length:Int)-1/\(0<=ZQ.From a/\ZQ.From a<=((Zm.YR c).length:Int)-2)/\
  ((ZQ.Kind a=1/\Zoa (Zm.YR c) (ZQ.From a)=false/\(1<=ZQ.Zcu a/\ZQ.Zcu a<=3))\/((ZQ.Kind a=2\/ZQ.Kind a=3)/\Zoa (Zm.YR c) (ZQ.From a)=true/\ZQ.Zcu a=0)))
theorem ZlR (k:Int):Zez k=some (tr (k=4\/k=5)):=by
 unfold Zez;split
 ·rename_i h;rw[Yt (.inl h)]
 ·rename_i h
  exact Zdz (by grind)
theorem Zoq (c:Zm) (a:ZQ) (hp:sm (.sl Zdh) (Zm.YR c)) (hd:sm (.sl YV) (ZQ.Delay a)) (hw:sm (.sl YV) (ZQ.ZiV a)):ZbY c a=some (tr (ZuS c a)):=by
 unfold ZbY;have hdl:=ZfZ hd;have hsl:=ZfZ hw;rw[ZlR,Bq];by_cases hk:ZQ.Kind a=4\/ZQ.Kind a=5
 ·rw[if_pos (Yt hk)]
  refine Zd5 (XE (λ_=>XE (λ_=>Xk (ZcA _ _ hdl) (λ_=>?_)))) (P:=ZQ.Zcu a=0/\((ZQ.ZiV a).length:Int)=0/\Zdm (ZQ.Delay a) false/\(ZQ.From a=Zii (Zm.YR c)/\0<=ZQ.From a/\(0<=ZQ.To a/\ZQ.To a<=((Zm.YR c).length:Int)-2)/\ZQ.To a≠ZQ.From a)) ?_
  ·rw[Zi7 c hp,Bq]
   refine XE (λ_=>XE (λ_=>Xk (ZdA c _ hp) (λ_=>Zdz ?_)));grind
  ·unfold ZuS
   grind
 ·rw[if_neg (by rw[Yl hk];simp)]
  refine Zd5 (Xk (ZcA _ _ hdl) (λ_=>Xk (ZcA _ _ hsl) (λ_=>?_))) (P:=Zdm (ZQ.Delay a) true/\Zdm (ZQ.ZiV a) true/\(ZQ.To a=((Zm.YR c).length:Int)-1/\(0<=ZQ.From a/\ZQ.From a<=((Zm.YR c).length:Int)-2)/\
   ((ZQ.Kind a=1/\Zoa (Zm.YR c) (ZQ.From a)=false/\(1<=ZQ.Zcu a/\ZQ.Zcu a<=3))\/((ZQ.Kind a=2\/ZQ.Kind a=3)/\Zoa (Zm.YR c) (ZQ.From a)=true/\ZQ.Zcu a=0)))) ?_
  ·rw[Zbd c hp,Bq]
   refine XE (λ_=>Xk (ZdA c _ hp) (λhF=>?_));obtain ⟨p,hp1,hp2⟩:=Zt8 (l:=Zm.YR c) hF.1 (by omega);rw[hp1,hp2];simp only[Bq];by_cases k1:ZQ.Kind a=1
   ·simp only[k1,if_true]
    refine Zd5 (Zfo (λ_=>ZjO (Jo _ _ _))) ?_;grind
   by_cases k2:ZQ.Kind a=2
   ·simp only[k2,if_true,Int.reduceEq,if_false]
    refine Zd5 (XE (λ_=>Zdz (decide_eq_true_iff))) ?_;grind
   by_cases k3:ZQ.Kind a=3
   ·simp only[k3,if_true,Int.reduceEq,if_false]
    refine Zd5 (XE (λ_=>Zdz (decide_eq_true_iff))) ?_;grind
   ·simp only[k1,k2,k3,if_false]
    refine ZnZ ?_;grind
  ·unfold ZuS
   grind
def Zei (o a:ZQ):Prop:=ZQ.Kind o=ZQ.Kind a/\ZQ.From o=ZQ.From a/\ZQ.To o=ZQ.To a
def Apart (l:List ZQ) (k:Nat) (a:ZQ):Prop:=∀ (j:Nat) (o:ZQ),j<k->l[j]?=some o->¬Zei o a
structure ZnA (c:Zm):Prop where
 name:(Zm.Name c).length<=4611686018427387904
 pins:sm (.sl Zdh) (Zm.YR c)
 arcs:sm (.sl ZdW) (Zm.ZaN c)
 truth:sm (.sl (.int .i64)) (Zm.Truth c)
theorem Zwx {c:Zm} (h:sm Qk c):ZnA c:=⟨Zhr h.1,h.2.2.1,h.2.2.2.1,h.2.2.2.2.1⟩
theorem ZyN {a:ZQ} (h:sm ZdW a):sm (.sl YV) (ZQ.Delay a)/\sm (.sl YV) (ZQ.ZiV a):=⟨h.2.2.2.2.1,h.2.2.2.2.2.1⟩
theorem Zi9 (o a:ZQ):XR o a=some (tr (Zei o a)):=by
 unfold XR Zei;exact XE (λ_=>XE (λ_=>Zdz decide_eq_true_iff))
theorem ZlO (c:Zm) (h:ZnA c):Zag c=some (tr ((Zm.ZaN c).length<=8/\Ze6 (Zm.ZaN c) (λk a=>ZuS c a/\Apart (Zm.ZaN c) k a))):=by
 unfold Zag;have hs:=ZN h.arcs;rw[Je (XB h.arcs) (λk a=>ZuS c a/\Apart (Zm.ZaN c) k a) (bad:=false) (good:=decide ((Zm.ZaN c).length<=8))
  (λk a hx hk _=>by
   obtain ⟨h1,h2⟩:=ZyN (Zie h.arcs hx);simp only[V5,show (k:Int)<((Zm.ZaN c).length:Int) from by omega,if_true,Zo,hx,Bq,Zoq c a h.pins h1 h2];by_cases hA:ZuS c a
   ·rw[if_pos (Yt hA),Zh (by omega),Zh (by omega)]
    simp only[Int.toNat_natCast,Int.toNat_zero,List.drop_zero,Nat.sub_zero];rw[XF (by show ((Zm.ZaN c).take k).length<=4611686018427387904;grind) (λo=>tr (Zei o a)) (λo _=>Zi9 o a),Bq];have e:((Zm.ZaN c).take k).any (λo=>tr (Zei o a))=true<->¬Apart (Zm.ZaN c) k a:=by
     rw[List.any_eq_true];constructor
     ·rintro ⟨o,ho,hs⟩ hap
      obtain ⟨j,hj⟩:=List.mem_iff_getElem?.1 ho;rw[List.getElem?_take] at hj;split at hj
      ·rename_i hjk;exact hap j o hjk hj ((Xn _).1 hs)
      ·cases hj
     ·intro hn
      apply Classical.byContradiction;intro hno;refine hn (λj o hj ho hs=>hno ⟨o,?_,Yt hs⟩);exact List.mem_iff_getElem?.2 ⟨j,by grind⟩
    grind
   ·rw[if_neg (by rw[Yl hA];simp)]
    grind)
  (λ_=>by
   simp only[V5,Int.lt_irrefl,if_false];congr 2;grind)]
 congr 1;refine Zcy ?_;rw[Xn];by_cases hA:Ze6 (Zm.ZaN c) (λk a=>ZuS c a/\Apart (Zm.ZaN c) k a)
 ·rw[X9 hA,decide_eq_true_eq];grind
 ·rw[Xy hA];grind
def Zo0 (c:Zm) (k:Int):Prop:=∃ a∈Zm.ZaN c,ZQ.Kind a=k
theorem ZcC (c:Zm) (k:Int) (h:ZnA c):QD c k=some (tr (Zo0 c k)):=by
 unfold QD;rw[XW (XB h.arcs) (λa=>decide (ZQ.Kind a=k)) (λa _=>rfl),Bq];refine Zdz ?_;rw[List.any_eq_true];simp only[decide_eq_true_eq,Zo0]
def ZdY (c:Zm):Prop :=
 (Zm.Kind c=1/\Zk4 (Zm.YR c)=0/\(Zm.Truth c).length=2 ^ ((Zm.YR c).length-1)/\Ze7 (Zm.Truth c) 0 1)\/
 (Zm.Kind c=2/\Zk4 (Zm.YR c)=1/\(Zm.Truth c).length=0/\¬Zo0 c 1/\(Zo0 c 2<->¬Zo0 c 3))\/
 (Zm.Kind c=3/\Zk4 (Zm.YR c)=1/\(Zm.Truth c).length=0/\Zo0 c 1/\Zo0 c 2/\¬Zo0 c 3)
theorem ZpG {n:Nat} (h:n<=4):(2:Nat) ^ n<=16:=by
 calc (2:Nat) ^ n<=2 ^ 4:=Nat.pow_le_pow_right (by omega) h
  _=16:=rfl
theorem Zyk {m:Nat} (h:m<=4):Wq ((1:Int)*(2:Int) ^ min m (IntKind.bits IntKind.i64))=((2 ^ m:Nat):Int):=by
 have hb:min m (IntKind.bits IntKind.i64)=m:=Nat.min_eq_left (by show m<=64;omega);have e:(1:Int)*(2:Int) ^ m=((2 ^ m:Nat):Int):=by simp
 rw[hb,e];have h16:=ZpG h;clear hb e;generalize 2 ^ m=g at h16 ⊢;rw[XG (by omega) (by omega)]
theorem ZkS (c:Zm) (h:ZnA c) (hp:ZhU (Zm.YR c)):JA c=some (tr (ZdY c)):=by
 unfold JA;have h2:=hp.1;have h5:=hp.2.1;refine (show Zn (λv=>XA c v.1 v.2.1) ((0:Int),(0:Int),())=_ from YO (l:=Zm.YR c) (ρ:=Bool) (λk=>((((Zm.YR c).take k).countP (λp=>YG.Clock p):Int),(k:Int),())) (step:=λv=>XA c v.1 v.2.1)
  (λk p hx hk=>by
   have hcnt:((Zm.YR c).take k).countP (λp=>YG.Clock p)<=5:=by
    have h1:=List.countP_le_length (p:=λp=>YG.Clock p) (l:=(Zm.YR c).take k);grind
   have hnext:((Zm.YR c).take (k+1)).countP (λp=>YG.Clock p)=((Zm.YR c).take k).countP (λp=>YG.Clock p)+if YG.Clock p=true then 1 else 0:=by
    rw[Yp hx,List.countP_append];grind
   simp only[XA,show (k:Int)<((Zm.YR c).length:Int) from by omega,if_true,Zo,hx,Bq,hnext];by_cases hc:YG.Clock p=true
   ·rw[if_pos hc,if_pos hc,Xj (by omega),Xj (by omega)]
   ·rw[if_neg hc,if_neg hc,Xj (by omega)];rfl)
  ?_)
 have hout:=Zbd c h.pins;simp only[XA,Int.lt_irrefl,if_false,List.take_length,hout,Bq,show (((Zm.YR c).length:Int)-1).toNat=(Zm.YR c).length-1 from by omega,Zyk (show (Zm.YR c).length-1<=4 by omega)];have e00:((Zm.YR c).countP (λp=>YG.Clock p):Int)=0<->Zk4 (Zm.YR c)=0:=by unfold Zk4;omega
 have e01:((Zm.YR c).countP (λp=>YG.Clock p):Int)=1<->Zk4 (Zm.YR c)=1:=by unfold Zk4;omega
 unfold ZdY;by_cases k1:Zm.Kind c=1
 ·simp only[k1,if_true]
  by_cases hc:Zk4 (Zm.YR c)=0
  ·rw[if_pos (e00.2 hc),Zh (by omega)]
   by_cases ht:(Zm.Truth c).length=2 ^ ((Zm.YR c).length-1)
   ·rw[if_pos (by rw[ht]),Zaj _ _ _ (XB h.truth),Bq]
    congr 2;refine (Znz ?_).symm;rw[ZiW];grind
   ·rw[if_neg (by omega),Yl (by grind)]
  ·rw[if_neg (λhh=>hc (e00.1 hh)),Yl (by grind)]
 by_cases k2:Zm.Kind c=2
 ·simp only[k2,if_true,Int.reduceEq,if_false]
  by_cases hc:Zk4 (Zm.YR c)=1
  ·rw[if_pos (e01.2 hc)]
   by_cases ht:(Zm.Truth c).length=0
   ·rw[if_pos (by omega),ZcC c 1 h,Bq]
    by_cases h1:Zo0 c 1
    ·rw[if_pos (Yt h1),Yl (by grind)]
    ·rw[if_neg (by rw[Yl h1];simp),ZcC c 2 h,ZcC c 3 h]
     simp only[Bq];congr 2;refine (Znz ?_).symm;by_cases a:Zo0 c 2<;>by_cases b:Zo0 c 3<;>simp only[Yt,Yl,a,b,not_false_eq_true]<;>grind
   ·rw[if_neg (by omega),Yl (by grind)]
  ·rw[if_neg (λhh=>hc (e01.1 hh)),Yl (by grind)]
 by_cases k3:Zm.Kind c=3
 ·simp only[k3,if_true,Int.reduceEq,if_false]
  by_cases hc:Zk4 (Zm.YR c)=1
  ·rw[if_pos (e01.2 hc)]
   by_cases ht:(Zm.Truth c).length=0
   ·rw[if_pos (by omega),ZcC c 1 h,Bq]
    by_cases h1:Zo0 c 1
    ·rw[if_pos (Yt h1),ZcC c 2 h,Bq]
     by_cases h2:Zo0 c 2
     ·rw[if_pos (Yt h2),ZcC c 3 h,Bq]
      congr 2;refine (Znz ?_).symm;rw[Bool.not_eq_true',<-Bool.not_eq_true,Xn];grind
     ·rw[if_neg (by rw[Yl h2];simp),Yl (by grind)]
    ·rw[if_neg (by rw[Yl h1];simp),Yl (by grind)]
   ·rw[if_neg (by omega),Yl (by grind)]
  ·rw[if_neg (λhh=>hc (e01.1 hh)),Yl (by grind)]
 ·simp only[k1,k2,k3,if_false]
  rw[Yl (by grind)]
def Zyf (c:Zm):Prop:=Zau (Zm.Name c)=true/\ZhU (Zm.YR c)/\((Zm.ZaN c).length<=8/\Ze6 (Zm.ZaN c) (λk a=>ZuS c a/\Apart (Zm.ZaN c) k a))/\(0<=Zm.ZuT c/\Zm.ZuT c<=100000)/\(0<=Zm.ZhS c/\Zm.ZhS c<=100000)/\ZdY c
def ZhR (c:Zm):Prop:=Zau (Zm.Name c)=true/\ZhU (Zm.YR c)/\((Zm.ZaN c).length<=8/\Ze6 (Zm.ZaN c) (λk a=>ZjN c a/\Apart (Zm.ZaN c) k a))/\(0<=Zm.ZuT c/\Zm.ZuT c<=100000)/\(0<=Zm.ZhS c/\Zm.ZhS c<=100000)/\ZdY c
theorem ZvG {l:List YG} {i j:Nat} {p q:YG} (hij:i<j) (hp:l[i]?=some p) (hq:l[j]?=some q) (cp:YG.Clock p=true) (cq:YG.Clock q=true):2<=Zk4 l:=by
 unfold Zk4;have e:l.countP (λp=>YG.Clock p)=(l.take j).countP (λp=>YG.Clock p)+(l.drop j).countP (λp=>YG.Clock p):=by rw[<-List.countP_append,List.take_append_drop]
 have h1:0<(l.take j).countP (λp=>YG.Clock p):=List.countP_pos_iff.2 ⟨p,List.mem_iff_getElem?.2 ⟨i,by grind⟩,cp⟩;have h2:0<(l.drop j).countP (λp=>YG.Clock p):=List.countP_pos_iff.2 ⟨q,List.mem_iff_getElem?.2 ⟨0,by grind⟩,cq⟩;omega
theorem ZnF {l:List YG} (h:Zk4 l<=1) {i:Int} (h0:0<=i):Zoa l i=true<->i=Zii l:=by
 unfold Zii XI Zoa;constructor
 ·intro hc
  split at hc
  ·rename_i p hp
   split
   ·rename_i j hj
    obtain ⟨hj1,hj2,hj3⟩:=List.findIdx?_eq_some_iff_getElem.1 hj;have hjg:l[j]?=some l[j]:=List.getElem?_eq_getElem hj1;rcases Nat.lt_trichotomy i.toNat j with hlt | heq | hlt
    ·grind
    ·omega
    ·have:=ZvG hlt hjg hp hj2 hc;omega
   grind
  ·cases hc
 ·intro hi
  split at hi
  ·rename_i j hj
   obtain ⟨hj1,hj2,hj3⟩:=List.findIdx?_eq_some_iff_getElem.1 hj;grind
  ·omega
theorem Zse {l:List YG} (h:ZhU l):Zoa l ((l.length:Int)-1)=false:=by
 have h2:=h.1;have hp:l[l.length-1]?=some l[l.length-1]:=List.getElem?_eq_getElem (by omega);have:=((h.2.2.2 _ _ hp).2.1 (by omega)).2.2;unfold Zoa;rw[show ((l.length:Int)-1).toNat=l.length-1 by omega,hp];exact this
theorem ZsY {c:Zm} (hp:ZhU (Zm.YR c)) (hk:Zk4 (Zm.YR c)<=1) (a:ZQ):ZuS c a<->ZjN c a:=by
 have h2:=hp.1;have hF:0<=ZQ.From a->(Zoa (Zm.YR c) (ZQ.From a)=true<->ZQ.From a=Zii (Zm.YR c)):=λh=>ZnF hk h;have hT:0<=ZQ.To a->(Zoa (Zm.YR c) (ZQ.To a)=true<->ZQ.To a=Zii (Zm.YR c)):=λh=>ZnF hk h;have hlast:=Zse hp;have hfr:∀ i,Zoa (Zm.YR c) i=true->i<((Zm.YR c).length:Int):=by
  intro i hi;unfold Zoa at hi;grind
 unfold ZuS ZjN;grind
theorem ZdY.Zk4 {c:Zm} (h:ZdY c):Zk4 (Zm.YR c)<=1:=by
 rcases h with h | h | h
 all_goals grind
theorem Zu1 (c:Zm):Zyf c<->ZhR c:=by
 unfold Zyf ZhR;constructor
 ·rintro ⟨a,b,⟨c1,d⟩,e,f,g⟩
  exact ⟨a,b,⟨c1,λk x hx=>⟨(ZsY b g.Zk4 x).1 (d k x hx).1,(d k x hx).2⟩⟩,e,f,g⟩
 ·rintro ⟨a,b,⟨c1,d⟩,e,f,g⟩
  exact ⟨a,b,⟨c1,λk x hx=>⟨(ZsY b g.Zk4 x).2 (d k x hx).1,(d k x hx).2⟩⟩,e,f,g⟩
theorem Zm5 (c:Zm) (h:sm Qk c):Zfw c=some (tr (ZhR c)):=by
 have hc:=Zwx h;unfold Zfw;refine Zd5 (Xk (by rw[Zh4];exact Zdz Iff.rfl) (λ_=>Xk (ZlP _ hc.pins) (λhp=>Xk (ZlO c hc) (λ_=>Xk (Jo _ _ _) (λ_=>Xk (Jo _ _ _) (λ_=>ZjO (ZkS c hc hp))))))) ?_;exact (Zu1 c)
def Zdw (l:List ZQ):List Int:=(List.range 6).map (λ(j:Nat)=>((l.countP (λa=>decide (ZQ.Kind a=(j:Int))):Nat):Int))
theorem Zbh (l:List ZQ) {j:Nat} (h:j<6):(Zdw l)[j]?=some ((l.countP (λa=>decide (ZQ.Kind a=(j:Int))):Nat):Int):=by
 simp[Zdw,List.getElem?_range h]
theorem Zk8 (c:Zm) (h:ZnA c) (hk:∀ a∈Zm.ZaN c,1<=ZQ.Kind a/\ZQ.Kind a<=5):ZdL c=some (Zdw (Zm.ZaN c)):=by
 unfold ZdL;have hs:=ZN h.arcs;have h0:List.replicate (Int.toNat (6:Int)) (0:Int)=Zdw ((Zm.ZaN c).take 0):=by simp[Zdw];decide
 rw[h0];refine YO (l:=Zm.ZaN c) (ρ:=List Int) (λk=>((k:Int),Zdw ((Zm.ZaN c).take k),())) (step:=λv=>Ji c v.1 v.2.1)
  (λk a hx hlt=>?_) (by simp only[Ji,Int.lt_irrefl,if_false,List.take_length])
 obtain ⟨k1,k5⟩:=hk a (List.mem_of_getElem? hx);have hkn:ZQ.Kind a=(((ZQ.Kind a).toNat:Nat):Int):=by omega
 have hcnt:∀ j:Nat,((Zm.ZaN c).take k).countP (λa=>decide (ZQ.Kind a=(j:Int)))<=1048576:=by
  intro j;have h1:=List.countP_le_length (p:=λa=>decide (ZQ.Kind a=(j:Int))) (l:=(Zm.ZaN c).take k);grind
 simp only[Ji,show (k:Int)<((Zm.ZaN c).length:Int) from by omega,if_true,Zo,hx,Bq];rw[ZcU (by omega) (Zbh _ (show (ZQ.Kind a).toNat<6 by omega)),Bq,Xj (hcnt _),Xj (by omega)];congr 3;rw[Prod.mk.injEq];refine ⟨?_,rfl⟩;apply List.ext_getElem?;intro j;by_cases hj:(ZQ.Kind a).toNat=j
 ·subst hj
  rw[List.getElem?_set_self (by simp[Zdw];omega),Zbh _ (by omega),Yp hx,List.countP_append];grind
 ·rw[List.getElem?_set_ne hj]
  by_cases h6:j<6
  ·rw[Zbh _ h6,Zbh _ h6,Yp hx,List.countP_append]
   grind
  ·rw[List.getElem?_eq_none (by simp[Zdw];omega),List.getElem?_eq_none (by simp[Zdw];omega)]
theorem Zlz (c:Zm) (j:Nat):0<(Zm.ZaN c).countP (λa=>decide (ZQ.Kind a=(j:Int)))<->Zo0 c j:=by
 rw[List.countP_pos_iff];simp only[decide_eq_true_eq,Zo0]
theorem Zkt (c:Zm) (h:ZnA c) (hp:ZhU (Zm.YR c)) (hk1:Zm.Kind c=1) :
  Zn (λv=>Zar c ((Zk4 (Zm.YR c):Int),true) v.1) ((0:Int),())=some (.inr (tr (ZdY c))):=by
 have h2:=hp.1;have h5:=hp.2.1;have hs:=ZN h.truth;have e1:Wq (((Zm.YR c).length:Int)-1)=((Zm.YR c).length:Int)-1:=XG (by omega) (by omega);have e2:IntKind.u64.wrap (((Zm.YR c).length:Int)-1)=((Zm.YR c).length:Int)-1:=IntWalk.u64_in _ (by omega);rw[Je (XB h.truth) (λk x=>0<=x/\x<=1) (bad:=.inr false) (good:=.inr (tr (Zk4 (Zm.YR c)=0/\(Zm.Truth c).length=2 ^ ((Zm.YR c).length-1))))
  (λk x hx hk _=>by
   simp only[Zar,show (k:Int)<((Zm.Truth c).length:Int) from by omega,if_true,Zo,hx,Bq,Zck,Qa];grind)
  (λ_=>by
   simp only[Zar,Int.lt_irrefl,if_false,e1,e2];by_cases hc:Zk4 (Zm.YR c)=0
   ·rw[if_pos (by omega),Zh (by omega),show (((Zm.YR c).length:Int)-1).toNat=(Zm.YR c).length-1 by omega,Zyk (by omega)]
    congr 2;congr 1;refine (Znz ?_).symm;grind
   ·rw[if_neg (by omega),Yl (λhh=>hc hh.1)])]
 congr 1;by_cases hA:Ze6 (Zm.Truth c) (λk x=>0<=x/\x<=1)
 ·rw[X9 hA]
  congr 1;refine Zdl ?_;have hAll:Ze7 (Zm.Truth c) 0 1:=λx hx=>by
   obtain ⟨k,hk⟩:=List.mem_iff_getElem?.1 hx;exact hA k x hk
  unfold ZdY;grind
 ·rw[Xy hA,Yl]
  intro hh;rcases hh with hh | hh | hh
  ·exact hA (λk x hk=>hh.2.2.2 x (List.mem_of_getElem? hk))
  all_goals grind
theorem Znu (c:Zm) (hsm:sm Qk c):ZfR c=some (tr (ZhR c)):=by
 have h:=Zwx hsm;have hs:=ZN h.arcs;unfold ZfR;rw[ZmI c h.pins,Bq];by_cases hp':¬ZhU (Zm.YR c)
 ·rw[Xy hp',Yl (λhh=>hp' hh.2.1)];rfl
 have hp:=Classical.not_not.1 hp';rw[X9 hp];simp only[if_true];refine Zd5 (Xk (P:=Zau (Zm.Name c)=true) (by rw[Zek _ h.name];exact Zdz Iff.rfl) (λhn=>Zfo (λh8=>Xk (Vx _ _ _) (λhl=>Xk (Vx _ _ _) (λhe=>?_))))) (P:=Zau (Zm.Name c)=true/\¬((8:Int)<((Zm.ZaN c).length:Int))/\(0<=Zm.ZuT c/\Zm.ZuT c<=100000)/\(0<=Zm.ZhS c/\Zm.ZhS c<=100000)/\(Ze6 (Zm.ZaN c) (λk a=>ZjN c a/\Apart (Zm.ZaN c) k a)/\ZdY c)) ?_
 ·rw[Je (XB h.arcs) (λk a=>ZjN c a/\Apart (Zm.ZaN c) k a) (bad:=false) (good:=tr (ZdY c))
   (λk a hx hk _=>by
    obtain ⟨h1,h2⟩:=ZyN (Zie h.arcs hx);simp only[ZcM,show (k:Int)<((Zm.ZaN c).length:Int) from by omega,if_true,Zo,hx,Bq,Znw c a h.pins h1 h2 hp.1];have inner:Zn (λv=>Zaq c (k:Int) a v.1) ((0:Int),())=some (sel (∀ j,j<k->∀ o,(Zm.ZaN c)[j]?=some o->¬Zei o a) (.inl (Wq ((k:Int)+1),())) (.inr false)):=by
     refine Zmj k (by omega) (λj=>∀ o,(Zm.ZaN c)[j]?=some o->¬Zei o a) (λj hj=>?_) (λ_=>by simp only[Zaq,Int.lt_irrefl,if_false]);obtain ⟨o,ho⟩:∃ o,(Zm.ZaN c)[j]?=some o:=⟨_,List.getElem?_eq_getElem (by omega)⟩;simp only[Zaq,show (j:Int)<(k:Int) from by omega,if_true,Zo,ho,Bq];have e:(∀ o',some o=some o'->¬Zei o' a)<->¬Zei o a:=⟨λhh=>hh o rfl,λhh o' ho'=>by grind⟩;rw[e];unfold Zei;grind
    have eap:Apart (Zm.ZaN c) k a<->(∀ j,j<k->∀ o,(Zm.ZaN c)[j]?=some o->¬Zei o a):=⟨λhh j hj o ho=>hh j o hj ho,λhh j o hj ho=>hh j hj o ho⟩;by_cases hA:ZjN c a
    ·rw[if_pos (Yt hA),inner]
     constructor
     ·intro hh;rw[X9 (eap.1 hh.2)]
     ·intro hh;rw[Xy (λh'=>hh ⟨hA,eap.2 h'⟩)]
    ·rw[if_neg (by rw[Yl hA];simp)]
     grind)
   (λhA=>by
    have hkinds:=Zk8 c h (λa ha=>by
     obtain ⟨k,hk⟩:=List.mem_iff_getElem?.1 ha;exact (hA k a hk).1.kind)
    have g1:atI (Zdw (Zm.ZaN c)) (1:Int)=some (((Zm.ZaN c).countP (λa=>decide (ZQ.Kind a=((1:Nat):Int))):Nat):Int):=ZcU (by omega) (Zbh _ (by omega));have g2:atI (Zdw (Zm.ZaN c)) (2:Int)=some (((Zm.ZaN c).countP (λa=>decide (ZQ.Kind a=((2:Nat):Int))):Nat):Int):=ZcU (by omega) (Zbh _ (by omega));have g3:atI (Zdw (Zm.ZaN c)) (3:Int)=some (((Zm.ZaN c).countP (λa=>decide (ZQ.Kind a=((3:Nat):Int))):Nat):Int):=ZcU (by omega) (Zbh _ (by omega));have c1:=Zlz c 1;have c2:=Zlz c 2;have c3:=Zlz c 3;simp only[ZcM,Int.lt_irrefl,if_false,hkinds,Bq,g1,g2,g3];generalize (Zm.ZaN c).countP (λa=>decide (ZQ.Kind a=((1:Nat):Int)))=n1 at c1 ⊢;generalize (Zm.ZaN c).countP (λa=>decide (ZQ.Kind a=((2:Nat):Int)))=n2 at c2 ⊢;generalize (Zm.ZaN c).countP (λa=>decide (ZQ.Kind a=((3:Nat):Int)))=n3 at c3 ⊢;by_cases k1:Zm.Kind c=1
    ·rw[if_pos k1]
     exact Zkt c h hp k1
    rw[if_neg k1];have hgoal:∀ (b:Bool),(b=true<->ZdY c)->(some (.inr b):Option ((Int×Unit) ⊕ Bool))=some (.inr (tr (ZdY c))):=λb hb=>by rw[Znz hb]
    have c1':Zo0 c 1<->0<n1:=c1.symm;have c2':Zo0 c 2<->0<n2:=c2.symm;have c3':Zo0 c 3<->0<n3:=c3.symm;have hKO:ZdY c<->(Zm.Kind c=2/\Zk4 (Zm.YR c)=1/\(Zm.Truth c).length=0/\¬0<n1/\(0<n2<->¬0<n3))\/(Zm.Kind c=3/\Zk4 (Zm.YR c)=1/\(Zm.Truth c).length=0/\0<n1/\0<n2/\¬0<n3):=by
     unfold ZdY
     simp_all
    grind)]
  congr 1;by_cases hA:Ze6 (Zm.ZaN c) (λk a=>ZjN c a/\Apart (Zm.ZaN c) k a)
  ·rw[X9 hA];grind
  ·rw[Xy hA,Yl (λx=>hA x.1)]
 ·unfold ZhR
  grind
theorem ZrH {α:Type} {l:List α} {k:Nat} {s:α}:s ∉ l.take k<->∀ (j:Nat) (q:α),j<k->l[j]?=some q->q≠s:=by
 constructor
 ·intro h j q hj hq e
  refine h (List.mem_iff_getElem?.2 ⟨j,?_⟩);grind
 ·intro h hm
  obtain ⟨j,hj⟩:=List.mem_iff_getElem?.1 hm;grind
theorem ZpA {α:Type} (f:α->List UInt8) (l:List α):VY (l.map f) l.length<->Ze6 l (λk x=>Zau (f x)=true/\∀ (j:Nat) (q:α),j<k->l[j]?=some q->f q≠f x):=by
 constructor
 ·intro h k x hx
  have hk:=(List.getElem?_eq_some_iff.1 hx).1;obtain ⟨h1,h2⟩:=h k (f x) hk (by simp[hx]);refine ⟨h1,λj q hj hq=>ZrH.1 h2 j (f q) hj (by simp[hq])⟩
 ·intro h j s hj hs
  simp only[List.getElem?_map,Option.map_eq_some_iff] at hs;obtain ⟨x,hx,rfl⟩:=hs;obtain ⟨h1,h2⟩:=h j x hx;refine ⟨h1,ZrH.2 (λi q hi hq=>?_)⟩;grind
def Zf7 (l:List Zm):List (List UInt8):=l.map Zm.Name
def Zo4 (a:Zt):Prop:=(Zt.Cells a).length<=8/\(∀ c∈Zt.Cells a,ZhR c)/\VY (Zf7 (Zt.Cells a)) (Zt.Cells a).length
theorem ZvW {a:Zt} (h:sm YL a):sm (.sl Qk) (Zt.Cells a):=h.1
theorem ZaW {α:Type} {l:List α} {P:α->Prop}:Ze6 l (λ_ x=>P x)<->∀ x∈l,P x:=by
 constructor
 ·intro h x hx
  obtain ⟨k,hk⟩:=List.mem_iff_getElem?.1 hx;exact h k x hk
 ·intro h k x hk
  grind
theorem ZjF {P Q:Prop}:sel P (tr Q) false=tr (P/\Q):=by
 by_cases h:P
 ·rw[X9 h];grind
 ·rw[Xy h,Yl (λq=>h q.1)]
theorem ZjZ (a:Zt) (h:sm YL a):ZcY a=some (tr (Zo4 a)):=by
 have hc:=ZvW h;have hs:=ZN hc;unfold ZcY;have:=Zhz (l:=Zt.Cells a) (ρ:=Bool) (λk=>((Zf7 (Zt.Cells a)).take k,(k:Int),())) (λ_ c=>ZhR c) (step:=λv=>Qw a v.1 v.2.1) (bad:=false) (good:=tr ((Zt.Cells a).length<=8/\VY (Zf7 (Zt.Cells a)) (Zt.Cells a).length))
  (λk c hx hk _=>by
   have hn:(Zf7 (Zt.Cells a))[k]?=some (Zm.Name c):=by simp[Zf7,hx]
   simp only[Qw,show (k:Int)<((Zt.Cells a).length:Int) from by omega,if_true,Zo,hx,Bq,Zm5 c (Zie hc hx)];rw[Zh (by grind),Yp hn,Xj (by omega)];constructor
   ·intro hh;rw[if_pos (Yt hh)]
   ·intro hh;rw[if_neg (by rw[Yl hh];simp)])
  (λhA=>by
   have e0:(Zf7 (Zt.Cells a)).take (Zt.Cells a).length=Zf7 (Zt.Cells a):=by rw[show (Zt.Cells a).length=(Zf7 (Zt.Cells a)).length by simp[Zf7],List.take_length]
   have hlen:(Zf7 (Zt.Cells a)).length=(Zt.Cells a).length:=by simp[Zf7]
   simp only[Qw,Int.lt_irrefl,if_false,e0];by_cases h8:(Zt.Cells a).length<=8
   ·rw[if_pos (by omega),Jm _ (by rw[hlen];omega),Bq,hlen]
    grind
   ·rw[if_neg (by omega),Yl (λq=>h8 q.1)])
 refine (show Zn (λv=>Qw a v.1 v.2.1) (([]:List (List UInt8)),(0:Int),())=_ from this).trans ?_;rw[ZjF];congr 1;refine Zdl ?_;rw[ZaW];exact ⟨λq=>⟨q.2.1,q.1,q.2.2⟩,λq=>⟨q.2.1,q.1,q.2.2⟩⟩
theorem ZlS {α ρ:Type} {f:α->List UInt8} {l:List α} {x:α} {k:Nat} (hk:k<=1048576) (hkl:k<=l.length) {step:Int×Unit->Option ((Int×Unit) ⊕ ρ)} {bad good:ρ}
  (hs:∀ (j:Nat) (y:α),j<k->l[j]?=some y->step ((j:Int),())=some (if f y=f x then .inr bad else .inl (Wq ((j:Int)+1),())))
  (hx:step ((k:Int),())=some (.inr good)):Zn step ((0:Int),())=some (sel (∀ (j:Nat) (q:α),j<k->l[j]?=some q->f q≠f x) good bad):=by
 rw[Zmj k (by omega) (λj=>∀ q,l[j]?=some q->f q≠f x) (bad:=bad) (good:=good) (λj hj=>by
  grind) (λ_=>hx)]
 congr 1;have e:(∀ j,j<k->∀ q,l[j]?=some q->f q≠f x)<->(∀ (j:Nat) (q:α),j<k->l[j]?=some q->f q≠f x):=⟨λh j q hj hq=>h j hj q hq,λh j hj q hq=>h j q hj hq⟩;rw[propext e]
theorem Zku (a:Zt) (h:sm YL a):Zc9 a=some (tr (Zo4 a)):=by
 have hc:=ZvW h;have hs:=ZN hc;unfold Zc9;rw[Je (XB hc) (λk c=>ZhR c/\∀ (j:Nat) (q:Zm),j<k->(Zt.Cells a)[j]?=some q->Zm.Name q≠Zm.Name c) (bad:=false) (good:=tr ((Zt.Cells a).length<=8))
  (λk c hx hk _=>by
   simp only[ZaF,show (k:Int)<((Zt.Cells a).length:Int) from by omega,if_true,Zo,hx,Bq,Znu c (Zie hc hx)];by_cases hC:ZhR c
   ·rw[if_pos (Yt hC),ZlS (f:=Zm.Name) (l:=Zt.Cells a) (x:=c) (k:=k) (by omega) (by omega) (bad:=.inr false) (good:=.inl (Wq ((k:Int)+1),()))
     (λj y hj hy=>by
      simp only[ZaE,show (j:Int)<(k:Int) from by omega,if_true,Zo,hy,Bq];split<;>rfl)
     (by simp only[ZaE,Int.lt_irrefl,if_false])]
    constructor
    ·intro hh;rw[X9 hh.2]
    ·intro hh;rw[Xy (λq=>hh ⟨hC,q⟩)]
   ·rw[if_neg (by rw[Yl hC];simp)]
    grind)
  (λ_=>by
   simp only[ZaF,Int.lt_irrefl,if_false];congr 2;exact (Znz (by grind)).symm)]
 rw[ZjF];congr 1;refine Zdl ?_;unfold Zo4;rw[Zf7,ZpA,<-ZaW];constructor
 ·rintro ⟨q,q8⟩
  exact ⟨q8,λk x hx=>(q k x hx).1,λk x hx=>⟨(q k x hx).1.1,(q k x hx).2⟩⟩
 ·rintro ⟨q8,q1,q2⟩
  exact ⟨λk x hx=>⟨q1 k x hx,(q2 k x hx).2⟩,q8⟩
theorem Zdx (l:List (List UInt8)) (hl:l.length<=1048576) (hsm:∀ s∈l,s.length<=4611686018427387904):Zas l=some (tr (VY l l.length)):=by
 unfold Zas;rw[Je (show Len l by show l.length<=4611686018427387904;omega) (λk s=>Zau s=true/\∀ (j:Nat) (q:List UInt8),j<k->l[j]?=some q->id q≠id s) (bad:=false) (good:=true)
  (λk s hx hk _=>by
   simp only[Zbr,show (k:Int)<(l.length:Int) from by omega,if_true,Zo,hx,Bq,Zek s (hsm s (List.mem_of_getElem? hx))];by_cases hC:Zau s=true
   ·rw[if_pos hC,ZlS (f:=id) (l:=l) (x:=s) (k:=k) (by omega) (by omega) (bad:=.inr false) (good:=.inl (Wq ((k:Int)+1),()))
     (λj y hj hy=>by
      simp only[Zbq,show (j:Int)<(k:Int) from by omega,if_true,Zo,hy,Bq,id];split<;>rfl)
     (by simp only[Zbq,Int.lt_irrefl,if_false])]
    constructor
    ·intro hh;rw[X9 hh.2]
    ·intro hh;rw[Xy (λq=>hh ⟨hC,q⟩)]
   grind)
  (λ_=>by simp only[Zbr,Int.lt_irrefl,if_false]),ZmA]
 congr 1;refine Zdl ?_;have:=ZpA id l
 simp_all
def Zd9 (d:Zc):List (List UInt8):=(Zc.Instances d).map Zd.Name
def Zcc (d:Zc):List (List UInt8):=(Zc.Xi d).map Z8.Name
def ZiT (d:Zc):Prop:=(Zc.Instances d).length<=14/\(Zc.YK d).length<=30/\(Zc.Xi d).length<=8/\VY (Zd9 d) (Zd9 d).length/\VY (Zc.YK d) (Zc.YK d).length/\VY (Zcc d) (Zcc d).length
theorem gather {α ρ:Type} {l:List α} (hl:l.length<=1048576) (f:α->List UInt8) {step:List (List UInt8)×Int×Unit->Option ((List (List UInt8)×Int×Unit) ⊕ ρ)} {good:ρ}
  (hs:∀ (k:Nat) (x:α) (o:List (List UInt8)),l[k]?=some x->(k:Int)<(l.length:Int)->o.length=k->step (o,(k:Int),())=Zu ((o.length+[f x].length)*16<=140737488355328) (some (.inl (o++[f x],Wq ((k:Int)+1),()))))
  (hx:step (l.map f,(l.length:Int),())=some (.inr good)):Zn step (([]:List (List UInt8)),(0:Int),())=some good:=by
 refine (show Zn step (([]:List (List UInt8)),(0:Int),())=some good from YO (l:=l) (λk=>((l.map f).take k,(k:Int),())) (λk x hx hk=>?_) ?_)
 ·have hn:(l.map f)[k]?=some (f x):=by simp[hx]
  have hlen:((l.map f).take k).length=k:=by grind
  rw[hs k x _ hx (by omega) hlen,Zh (by grind),Yp hn,Xj (by omega)]
 ·have e0:(l.map f).take l.length=l.map f:=by rw[show l.length=(l.map f).length by simp,List.take_length]
  grind
theorem ZhG {d:Zc} (h:sm YJ d):sm (.sl Yg) (Zc.Instances d)/\sm (.sl VQ) (Zc.Xi d)/\sm (.sl .str) (Zc.YK d):=by
 refine ⟨?_,?_,?_⟩
 ·first | exact h.1 | exact h.2.1 | exact h.2.2.1 | exact h.2.2.2.1
 ·first | exact h.1 | exact h.2.1 | exact h.2.2.1 | exact h.2.2.2.1
 ·first | exact h.1 | exact h.2.1 | exact h.2.2.1 | exact h.2.2.2.1
theorem ZnY {x:Zd} (h:sm Yg x):sm .str (Zd.Name x)/\sm (.sl (.int .i64)) (Zd.YK x):=by
 refine ⟨?_,?_⟩
 ·first | exact h.1 | exact h.2.1 | exact h.2.2.1 | exact h.2.2.2.1
 ·first | exact h.1 | exact h.2.1 | exact h.2.2.1 | exact h.2.2.2.1
theorem ZyO {x:Z8} (h:sm VQ x):sm .str (Z8.Name x):=by
 first | exact h.1 | exact h.2.1 | exact h.2.2.1 | exact h.2.2.2.1
theorem Zfv (d:Zc) (h:sm YJ d):Vv d=some (tr (ZiT d)):=by
 obtain ⟨h1,h2,h3⟩:=ZhG h;have s1:=ZN h1;have s2:=ZN h2;have s3:=ZN h3;unfold Vv;refine gather (l:=Zc.Instances d) s1 Zd.Name (λk x o hx hk ho=>?_) ?_
 ·simp only[Q7,hk,if_true,Zo,hx,Bq]
 simp only[Q7,Int.lt_irrefl,if_false];have hi:(Zd9 d).length=(Zc.Instances d).length:=by simp[Zd9]
 have hp:(Zcc d).length=(Zc.Xi d).length:=by simp[Zcc]
 refine gather (l:=Zc.Xi d) s2 Z8.Name (λk x o hx hk ho=>?_) ?_
 ·simp only[Q6,hk,if_true,Zo,hx,Bq]
 simp only[Q6,Int.lt_irrefl,if_false];rw[show List.map Z8.Name (Zc.Xi d)=Zcc d from rfl,show List.map Zd.Name (Zc.Instances d)=Zd9 d from rfl];simp only[hi,hp,Jm _ (show (Zd9 d).length<=4611686018427387904 by omega),Jm _ (show (Zcc d).length<=4611686018427387904 by omega),Jm _ (show (Zc.YK d).length<=4611686018427387904 by omega),Bq];unfold ZiT;rw[hi,hp];by_cases a:(Zc.Instances d).length<=14
 ·rw[if_pos (by omega)]
  by_cases b:(Zc.YK d).length<=30
  ·rw[if_pos (by omega)]
   by_cases c:(Zc.Xi d).length<=8
   ·rw[if_pos (by omega)]
    by_cases e:VY (Zd9 d) (Zc.Instances d).length
    ·rw[if_pos (Yt e)]
     by_cases f:VY (Zc.YK d) (Zc.YK d).length
     ·rw[if_pos (Yt f)]
      grind
     ·rw[if_neg (by rw[Yl f];simp),Yl (λq=>f q.2.2.2.2.1)]
    ·rw[if_neg (by rw[Yl e];simp),Yl (λq=>e q.2.2.2.1)]
   ·rw[if_neg (by omega),Yl (λq=>c q.2.2.1)]
  ·rw[if_neg (by omega),Yl (λq=>b q.2.1)]
 ·rw[if_neg (by omega),Yl (λq=>a q.1)]
def Zlc (n:Nat) (s:List Int):List Int:=(List.range n).map (λ(j:Nat)=>((s.countP (λx=>decide (x=(j:Int))):Nat):Int))
theorem ZiZ (n:Nat) (s:List Int):(Zlc n s).length=n:=by simp[Zlc]
theorem Zob (n:Nat):Zlc n []=List.replicate n 0:=by
 apply List.ext_getElem?;intro i;simp only[Zlc,List.countP_nil,List.getElem?_map,List.getElem?_replicate,List.getElem?_range];grind
theorem Zfq {n:Nat} {s:List Int} {j:Nat} (h:j<n):(Zlc n s)[j]?=some ((s.countP (λx=>decide (x=(j:Int))):Nat):Int):=by
 simp[Zlc,h]
theorem ZwO {n:Nat} {s:List Int} {x:Int} (h0:0<=x) (h1:x<(n:Int)):atI (Zlc n s) x=some ((s.countP (λy=>decide (y=x)):Nat):Int):=by
 refine ZcU h0 ?_;rw[Zfq (by omega),show ((x.toNat:Nat):Int)=x by omega]
theorem Zu2 {n:Nat} {s:List Int} {x:Int} (h0:0<=x) (h1:x<(n:Int)):List.set (Zlc n s) (Int.toNat x) (((s.countP (λy=>decide (y=x)):Nat):Int)+1)=Zlc n (s++[x]):=by
 apply List.ext_getElem?;intro i;rw[List.getElem?_set];by_cases hi:i<n
 ·rw[Zfq hi,Zfq hi,List.countP_append,ZiZ]
  grind
 ·have h1:(Zlc n s)[i]?=none:=by rw[List.getElem?_eq_none];rw[ZiZ];omega
  have h2:(Zlc n (s++[x]))[i]?=none:=by rw[List.getElem?_eq_none];rw[ZiZ];omega
  grind
theorem ZgS {n:Nat} {s:List Int} {x:Int} (h0:0<=x) (h1:x<(n:Int)) (hs:s.length<=1048576000) {τ:Type} (F:List Int->Option τ) :
  ((atI (Zlc n s) x).bind λy=>F (List.set (Zlc n s) (Int.toNat x) (Wq (y+1))))=F (Zlc n (s++[x])):=by
 have h2:=List.countP_le_length (p:=λy=>decide (y=x)) (l:=s);rw[ZwO h0 h1,Bq,XG (by omega) (by omega),Zu2 h0 h1]
def YQ (x:Zd):Int:=(Zd.YK x).getLastD 0
def Zn4 (d:Zc) (n:Int):Prop:=0<=n/\n<=((Zc.YK d).length:Int)-1
def Zf0 (a:Zt) (d:Zc) (x:Zd):Prop :=
 (0<=Zd.Cell x/\Zd.Cell x<=((Zt.Cells a).length:Int)-1)/\(∃ c,(Zt.Cells a)[(Zd.Cell x).toNat]?=some c/\(Zd.YK x).length=(Zm.YR c).length)/\∀ n∈Zd.YK x,Zn4 d n
def ZhV (d:Zc) (p:Z8):Prop:=(1<=Z8.Dir p/\Z8.Dir p<=2)/\Zn4 d (Z8.Net p)
def Zvd (d:Zc):List Int:=(Zc.Instances d).map YQ++((Zc.Xi d).filter (λp=>decide (Z8.Dir p=1))).map Z8.Net
def ZiU (d:Zc):Prop:=∀ x∈Zlc (Zc.YK d).length (Zvd d),x=1
def Zab (a:Zt) (d:Zc):Prop:=Zo4 a/\ZiT d/\(∀ x∈Zc.Instances d,Zf0 a d x)/\(∀ p∈Zc.Xi d,ZhV d p)/\ZiU d
theorem Zf0.last {a:Zt} {d:Zc} {x:Zd} (h:Zf0 a d x) (hl:Zo4 a) (hsm:(Zd.YK x).length<=1048576):atI (Zd.YK x) (Wq (((Zd.YK x).length:Int)-1))=some (YQ x)/\Zn4 d (YQ x):=by
 obtain ⟨_,⟨c,hc,hn⟩,hall⟩:=h;have h2:2<=(Zm.YR c).length:=(hl.2.1 c (List.mem_of_getElem? hc)).2.1.1;unfold YQ;cases hN:Zd.YK x with
 | nil=>grind
 | cons y r =>
  rw[hN] at hsm;rw[Zky hsm (by simp),Zo];grind
theorem ZdB (d:Zc) (n:Int) (h:sm YJ d):X7 d n=some (tr (Zn4 d n)):=by
 have s3:=ZN (ZhG h).2.2;unfold X7;rw[show Zb1 (Zc.YK d)=some ((Zc.YK d).length:Int) from rfl,Bq,XG (by omega) (by omega)];exact ZjO (Jo _ _ _)
theorem ZeZ (d:Zc) (a:Zt) (x:Zd) (hd:sm YJ d) (ha:sm YL a) (hx:sm Yg x):QU d a x=some (tr (Zf0 a d x)):=by
 have sa:=ZN (ZvW ha);unfold QU;rw[show JK (Zt.Cells a)=some ((Zt.Cells a).length:Int) from rfl,Bq,XG (by omega) (by omega)];refine Zd5 (P:=(0<=Zd.Cell x/\Zd.Cell x<=((Zt.Cells a).length:Int)-1)/\Zf0 a d x) (Xk (Jo _ _ _) (λhw=>?_)) ⟨λq=>q.2,λq=>⟨q.1,q⟩⟩;obtain ⟨c,hc1,hc2⟩:=Zq2 hw.1 (show Zd.Cell x<((Zt.Cells a).length:Int) by omega);rw[hc1,Bq];refine Zd5 (P:=((Zd.YK x).length:Int)=((Zm.YR c).length:Int)/\∀ n∈Zd.YK x,Zn4 d n) (XE (λhe=>?_)) ?_
 ·rw[XH (XB (ZnY hx).2) (λn=>!tr (Zn4 d n)) (λn _=>by
   unfold Xo;show (X7 d n).bind _=_;rw[ZdB d n hd];rfl),Bq]
  refine Zdz ?_;rw[Bool.not_eq_true',List.any_eq_false];constructor
  ·intro q n hn
   have:=q n hn;simp only[Bool.not_eq_true',Bool.not_eq_false] at this;exact (Xn _).1 this
  ·intro q n hn
   simp only[Bool.not_eq_true',Bool.not_eq_false];exact Yt (q n hn)
 ·constructor
  ·rintro ⟨q1,q2⟩;exact ⟨hw,⟨c,hc2,by omega⟩,q2⟩
  ·rintro ⟨_,⟨c',q1,q2⟩,q3⟩
   grind
theorem Zrb {d:Zc} {k:Nat} {p:Z8} (hx:(Zc.Xi d)[k]?=some p) (s:List Int) :
  s++(((Zc.Xi d).take (k+1)).filter (λp=>decide (Z8.Dir p=1))).map Z8.Net=(if Z8.Dir p=1 then (s++(((Zc.Xi d).take k).filter (λp=>decide (Z8.Dir p=1))).map Z8.Net)++[Z8.Net p] else s++(((Zc.Xi d).take k).filter (λp=>decide (Z8.Dir p=1))).map Z8.Net):=by
 rw[Yp hx,List.filter_append,List.map_append];grind
theorem Zto {d:Zc} (k m:Nat):(((Zc.Instances d).take m).map YQ++(((Zc.Xi d).take k).filter (λp=>decide (Z8.Dir p=1))).map Z8.Net).length<=(Zc.Instances d).length+(Zc.Xi d).length:=by
 grind
theorem ZkQ (a:Zt) (d:Zc) (ha:sm YL a) (hd:sm YJ d):ZdE a d=some (tr (Zab a d)):=by
 obtain ⟨h1,h2,h3⟩:=ZhG hd;have s1:=ZN h1;have s2:=ZN h2;have s3:=ZN h3;unfold ZdE;refine Zd5 (P:=Zo4 a/\ZiT d/\(Ze6 (Zc.Instances d) (λ_ x=>Zf0 a d x)/\(Ze6 (Zc.Xi d) (λ_ p=>ZhV d p)/\ZiU d))) (Xk (ZjZ a ha) (λhL=>Xk (Zfv d hd) (λhN=>?_))) (by rw[ZaW,ZaW];exact Iff.rfl);rw[Zh (by omega),Zh (by omega),Zh (by omega),Zh (by omega)];have:=Zhz (l:=Zc.Instances d) (ρ:=Bool) (λk=>((k:Int),Zlc (Zc.YK d).length (((Zc.Instances d).take k).map YQ),())) (λ_ x=>Zf0 a d x) (step:=λv=>V7 a d v.1 v.2.1) (bad:=false) (good:=tr (Ze6 (Zc.Xi d) (λ_ p=>ZhV d p)/\ZiU d))
  (λk x hx hk _=>by
   have hsx:=Zie h1 hx;simp only[V7,show (k:Int)<((Zc.Instances d).length:Int) from by omega,if_true,Zo,hx,Bq,ZeZ d a x hd ha hsx];constructor
   ·intro hh
    obtain ⟨e1,e2⟩:=hh.last hL (ZN (ZnY hsx).2);rw[if_pos (Yt hh),e1,Bq,ZgS e2.1 (by have:=e2.2;omega) (by grind) (F:=λo=>some (Sum.inl (Wq ((k:Int)+1),o,()))),Yp hx,List.map_append,Xj (by omega)];rfl
   ·intro hh;rw[if_neg (by rw[Yl hh];simp)])
  (λhA=>by
   simp only[V7,Int.lt_irrefl,if_false,List.take_length];have:=Zhz (l:=Zc.Xi d) (ρ:=Int×List Int×Unit ⊕ Bool) (λk=>((k:Int),Zlc (Zc.YK d).length ((Zc.Instances d).map YQ++(((Zc.Xi d).take k).filter (λp=>decide (Z8.Dir p=1))).map Z8.Net),())) (λ_ p=>ZhV d p) (step:=λv=>QL d v.1 v.2.1) (bad:=.inr false) (good:=.inr (tr (ZiU d)))
    (λk p hx hk _=>by
     have hl:=Zto (d:=d) k (Zc.Instances d).length;rw[List.take_length] at hl;simp only[QL,show (k:Int)<((Zc.Xi d).length:Int) from by omega,if_true,Zo,hx,Bq,ZdB d _ hd,Zrb hx];by_cases d1:Z8.Dir p=1
     ·simp only[d1,if_true]
      constructor
      ·intro hh
       rw[if_pos (Yt hh.2),ZgS hh.2.1 (by have:=hh.2.2;omega) (by omega) (F:=λo=>some (Sum.inl (Wq ((k:Int)+1),o,()))),Xj (by omega)]
      ·intro hh
       rw[if_neg (by rw[Yl (λq=>hh ⟨by omega,q⟩)];simp)]
     ·simp only[d1,if_false]
      by_cases d2:Z8.Dir p=2
      ·simp only[d2,if_true]
       constructor
       ·intro hh
        rw[if_pos (Yt hh.2),Xj (by omega)]
       ·intro hh
        rw[if_neg (by rw[Yl (λq=>hh ⟨by omega,q⟩)];simp)]
      ·simp only[d2,if_false]
       exact ⟨λhh=>by have:=hh.1;omega,λ_=>trivial⟩)
    (λ_=>by
     simp only[QL,Int.lt_irrefl,if_false,List.take_length];rw[QT (show Len _ by show List.length _<=_;rw[ZiZ];omega) (λn=>!decide (n=1)) (λn _=>rfl),Bq];congr 3;refine (Znz ?_).symm;rw[Bool.not_eq_true',List.any_eq_false];simp only[Bool.not_eq_true',Bool.not_eq_false,decide_eq_true_eq,decide_eq_false_iff_not,Classical.not_not];exact Iff.rfl)
   refine (show Zn (λv=>QL d v.1 v.2.1) ((0:Int),Zlc (Zc.YK d).length ((Zc.Instances d).map YQ),())=_ from (by simpa using this)).trans ?_;by_cases hP:Ze6 (Zc.Xi d) (λ_ p=>ZhV d p)
   ·rw[X9 hP];grind
   ·rw[Xy hP,Yl (λq=>hP q.1)])
 rw[ZjF] at this;refine Eq.trans ?_ this;rw[List.take_zero,List.map_nil,Zob];rfl
theorem Zk9 (a:Zt) (d:Zc) (ha:sm YL a) (hd:sm YJ d):ZdM a d=some (tr (Ze6 (Zc.Instances d) (λ_ x=>Zf0 a d x)/\Ze6 (Zc.Xi d) (λ_ p=>ZhV d p))):=by
 obtain ⟨h1,h2,h3⟩:=ZhG hd;have s1:=ZN h1;have s2:=ZN h2;have s3:=ZN h3;have sa:=ZN (ZvW ha);have e1:Wq (((Zc.YK d).length:Int)-1)=((Zc.YK d).length:Int)-1:=XG (by omega) (by omega);have e2:Wq (((Zt.Cells a).length:Int)-1)=((Zt.Cells a).length:Int)-1:=XG (by omega) (by omega);unfold ZdM;rw[Je (XB h1) (λ_ x=>Zf0 a d x) (bad:=false) (good:=tr (Ze6 (Zc.Xi d) (λ_ p=>ZhV d p)))
  (λk x hx hk _=>by
   have hsx:=Zie h1 hx;simp only[Zbu,show (k:Int)<((Zc.Instances d).length:Int) from by omega,if_true,Zo,hx,Bq,Vx,e2];by_cases hc:0<=Zd.Cell x/\Zd.Cell x<=((Zt.Cells a).length:Int)-1
   ·obtain ⟨c,hc1,hc2⟩:=Zq2 hc.1 (show Zd.Cell x<((Zt.Cells a).length:Int) by omega)
    rw[if_pos (Yt hc),hc1,Bq];by_cases hp:((Zd.YK x).length:Int)=((Zm.YR c).length:Int)
    ·rw[if_pos hp,Je (XB (ZnY hsx).2) (λ_ n=>Zn4 d n) (bad:=.inr false) (good:=.inl (Wq ((k:Int)+1),()))
      (λj n hn hj _=>by
       simp only[Zbs,show (j:Int)<((Zd.YK x).length:Int) from by omega,if_true,Zo,hn,Bq,Vx,e1];constructor
       ·intro hh;exact if_pos (Yt hh)
       ·intro hh;exact if_neg (λq=>hh ((Xn _).1 q)))
      (λ_=>by simp only[Zbs,Int.lt_irrefl,if_false])]
     constructor
     ·intro hh;rw[X9 (ZaW.2 hh.2.2)]
     ·intro hh;rw[Xy (λq=>hh ⟨hc,⟨c,hc2,by omega⟩,ZaW.1 q⟩)]
    ·rw[if_neg hp]
     refine ⟨λhh=>?_,λ_=>rfl⟩;obtain ⟨_,⟨c',q1,q2⟩,_⟩:=hh;grind
   ·rw[if_neg (by rw[Yl hc];simp)]
    exact ⟨λhh=>absurd hh.1 hc,λ_=>rfl⟩)
  (λ_=>by
   simp only[Zbu,Int.lt_irrefl,if_false];rw[Je (XB h2) (λ_ p=>ZhV d p) (bad:=.inr false) (good:=.inr true)
    (λk p hx hk _=>by
     simp only[Zbt,show (k:Int)<((Zc.Xi d).length:Int) from by omega,if_true,Zo,hx,Bq,Vx,e1];by_cases hc:1<=Z8.Dir p/\Z8.Dir p<=2
     ·rw[if_pos (Yt hc)]
      constructor
      ·intro hh;exact if_pos (Yt hh.2)
      ·intro hh;exact if_neg (λq=>hh ⟨hc,(Xn _).1 q⟩)
     ·rw[if_neg (by rw[Yl hc];simp)]
      exact ⟨λhh=>absurd hh.1 hc,λ_=>rfl⟩)
    (λ_=>by simp only[Zbt,Int.lt_irrefl,if_false])]
   congr 1;by_cases hh:Ze6 (Zc.Xi d) (λ_ p=>ZhV d p)
   ·rw[X9 hh,Yt hh]
   ·rw[Xy hh,Yl hh])]
 rw[ZjF]
theorem ZrL {α:Type} {l:List α} {f:α->List UInt8} (h:∀ x∈l,(f x).length<=4611686018427387904):∀ s∈l.map f,s.length<=4611686018427387904:=by
 grind
theorem Zga (a:Zt) (d:Zc) (ha:sm YL a) (hd:sm YJ d):Zch a d=some (tr (Zab a d)):=by
 obtain ⟨h1,h2,h3⟩:=ZhG hd;have s1:=ZN h1;have s2:=ZN h2;have s3:=ZN h3;unfold Zch;refine Zd5 (Xk (Zku a ha) (λhL=>Zfo (λa1=>Zfo (λa2=>Zfo (λa3=>Xk (Zk9 a d ha hd) (λhP=>?_))))))
  (P:=Zo4 a/\¬(14:Int)<((Zc.Instances d).length:Int)/\¬(30:Int)<((Zc.YK d).length:Int)/\¬(8:Int)<((Zc.Xi d).length:Int)/\(Ze6 (Zc.Instances d) (λ_ x=>Zf0 a d x)/\Ze6 (Zc.Xi d) (λ_ p=>ZhV d p))/\(VY (Zd9 d) (Zd9 d).length/\VY (Zcc d) (Zcc d).length/\VY (Zc.YK d) (Zc.YK d).length)/\ZiU d) ?_
 ·have hi:(Zd9 d).length=(Zc.Instances d).length:=by simp[Zd9]
  have hp:(Zcc d).length=(Zc.Xi d).length:=by simp[Zcc]
  refine gather (l:=Zc.Instances d) s1 Zd.Name (λk x o hx hk ho=>?_) ?_
  ·simp only[Zbp,hk,if_true,Zo,hx,Bq]
  simp only[Zbp,Int.lt_irrefl,if_false];refine gather (l:=Zc.Xi d) s2 Z8.Name (λk x o hx hk ho=>?_) ?_
  ·simp only[Zbo,hk,if_true,Zo,hx,Bq]
  simp only[Zbo,Int.lt_irrefl,if_false];rw[show List.map Z8.Name (Zc.Xi d)=Zcc d from rfl,show List.map Zd.Name (Zc.Instances d)=Zd9 d from rfl];simp only[Zdx (Zd9 d) (by omega) (ZrL (λx hx=>Zhr (ZnY (ZpP h1 hx)).1)),Zdx (Zcc d) (by omega) (ZrL (λx hx=>Zhr (ZyO (ZpP h2 hx)))),Zdx (Zc.YK d) (by omega) (λs hs=>Zhr (ZpP h3 hs)),Bq];by_cases n1:VY (Zd9 d) (Zd9 d).length
  ·rw[if_pos (Yt n1)]
   by_cases n2:VY (Zcc d) (Zcc d).length
   ·rw[if_pos (Yt n2)]
    by_cases n3:VY (Zc.YK d) (Zc.YK d).length
    ·rw[if_pos (Yt n3),Zh (by omega),Zh (by omega),Zh (by omega),Zh (by omega)]
     have:=YO (l:=Zc.Instances d) (ρ:=(List (List UInt8))×Int×Unit ⊕ ((List (List UInt8))×Int×Unit ⊕ Bool)) (λk=>((k:Int),Zlc (Zc.YK d).length (((Zc.Instances d).take k).map YQ),())) (step:=λv=>Jh d v.1 v.2.1) (good:=.inr (.inr (tr (ZiU d))))
      (λk x hx hk=>by
       have hsx:=Zie h1 hx;obtain ⟨e1,e2⟩:=(hP.1 k x hx).last hL (ZN (ZnY hsx).2);simp only[Jh,show (k:Int)<((Zc.Instances d).length:Int) from by omega,if_true,Zo,hx,Bq];rw[e1,Bq,ZgS e2.1 (by have:=e2.2;omega) (by grind) (F:=λo=>some (Sum.inl (Wq ((k:Int)+1),o,()))),Yp hx,List.map_append,Xj (by omega)];rfl)
      (by
       simp only[Jh,Int.lt_irrefl,if_false,List.take_length];have:=YO (l:=Zc.Xi d) (ρ:=Int×List Int×Unit ⊕ ((List (List UInt8))×Int×Unit ⊕ ((List (List UInt8))×Int×Unit ⊕ Bool))) (λk=>((k:Int),Zlc (Zc.YK d).length ((Zc.Instances d).map YQ++(((Zc.Xi d).take k).filter (λp=>decide (Z8.Dir p=1))).map Z8.Net),())) (step:=λv=>Jg d v.1 v.2.1) (good:=.inr (.inr (.inr (tr (ZiU d)))))
        (λk p hx hk=>by
         have hl:=Zto (d:=d) k (Zc.Instances d).length;rw[List.take_length] at hl;have hpo:=hP.2 k p hx;simp only[Jg,show (k:Int)<((Zc.Xi d).length:Int) from by omega,if_true,Zo,hx,Bq,Zrb hx];by_cases d1:Z8.Dir p=1
         ·simp only[d1,if_true]
          rw[ZgS hpo.2.1 (by have:=hpo.2.2;omega) (by omega) (F:=λo=>some (Sum.inl (Wq ((k:Int)+1),o,()))),Xj (by omega)]
         ·simp only[d1,if_false]
          rw[Xj (by omega)])
        (by
         simp only[Jg,Int.lt_irrefl,if_false,List.take_length];rw[Je (l:=Zlc (Zc.YK d).length ((Zc.Instances d).map YQ++((Zc.Xi d).filter (λp=>decide (Z8.Dir p=1))).map Z8.Net)) (show List.length _<=_ by rw[ZiZ];omega) (λ_ x=>x=1) (bad:=.inr (.inr (.inr (.inr false)))) (good:=.inr (.inr (.inr (.inr true))))
          (λk x hx hk _=>by
           simp only[Zbn,show (k:Int)<((Zlc (Zc.YK d).length ((Zc.Instances d).map YQ++((Zc.Xi d).filter (λp=>decide (Z8.Dir p=1))).map Z8.Net)).length:Int) from by omega,if_true,Zo,hx,Bq];grind)
          (λ_=>by simp only[Zbn,Int.lt_irrefl,if_false])]
         congr 1;have e:Ze6 (Zlc (Zc.YK d).length ((Zc.Instances d).map YQ++((Zc.Xi d).filter (λp=>decide (Z8.Dir p=1))).map Z8.Net)) (λ_ x=>x=1)<->ZiU d:=by
          rw[ZaW];exact Iff.rfl
         by_cases hh:ZiU d
         ·rw[X9 (e.2 hh),Yt hh]
         ·rw[Xy (λq=>hh (e.1 q)),Yl hh])
       grind)
     rw[List.take_zero,List.map_nil,Zob] at this;grind
    ·rw[if_neg (by rw[Yl n3];simp),Yl (λq=>n3 q.1.2.2)]
   ·rw[if_neg (by rw[Yl n2];simp),Yl (λq=>n2 q.1.2.1)]
  ·rw[if_neg (by rw[Yl n1];simp),Yl (λq=>n1 q.1.1)]
 ·unfold Zab ZiT
  rw[ZaW,ZaW];grind
def cat {α β:Type} (f:Nat->α->List β):Nat->List α->List β
 | _,[]=>[]
 | k,x::r=>f k x++cat f (k+1) r
theorem ZnE {α β:Type} (f:Nat->α->List β):∀ (l r:List α) (m:Nat),cat f m (l++r)=cat f m l++cat f (m+l.length) r
 | [],r,m=>by simp[cat]
 | x::l,r,m=>by
  simp only[List.cons_append,cat,List.length_cons,ZnE f l r,List.append_assoc];grind
theorem Zq9 {α β:Type} {f:Nat->α->List β} {l:List α} {k:Nat} {x:α} (hx:l[k]?=some x):cat f 0 (l.take (k+1))=cat f 0 (l.take k)++f k x:=by
 have hk:=(List.getElem?_eq_some_iff.1 hx).1;rw[Yp hx,ZnE];simp only[cat,Nat.zero_add,List.length_take,List.append_nil];grind
theorem ZcI {α β:Type} {f:Nat->α->List β} {y:β}:∀ {l:List α} {m:Nat},y∈cat f m l<->∃ (k:Nat) (x:α),l[k]?=some x/\y∈f (m+k) x
 | [],m=>by simp[cat]
 | z::r,m=>by
  simp only[cat,List.mem_append,ZcI (l:=r)];constructor
  ·rintro (h | ⟨k,x,h1,h2⟩)
   ·exact ⟨0,z,rfl,h⟩
   ·exact ⟨k+1,x,by simpa using h1,by grind⟩
  grind
theorem Zfp {α β:Type} {f:Nat->α->List β} {c:Nat}:∀ {l:List α} {m:Nat},(∀ k,∀ x∈l,(f k x).length<=c)->(cat f m l).length<=c*l.length
 | [],m,_=>by simp[cat]
 | z::r,m,h=>by
  simp only[cat,List.length_append,List.length_cons];have h1:=h m z (by simp);have h2:=Zfp (f:=f) (l:=r) (m:=m+1) (λk x hx=>h k x (by simp[hx]));grind
theorem Jp {α β ρ:Type} {l:List α} (f:Nat->α->List β) (acc:List β) {step:List β×Int×Unit->Option ((List β×Int×Unit) ⊕ ρ)} {good:ρ}
  (hs:∀ (k:Nat) (x:α),l[k]?=some x->k<l.length->step (acc++cat f 0 (l.take k),(k:Int),())=some (.inl ((acc++cat f 0 (l.take k))++f k x,((k+1:Nat):Int),())))
  (hx:step (acc++cat f 0 l,(l.length:Int),())=some (.inr good)):Zn step (acc,(0:Int),())=some good:=by
 have:=YO (l:=l) (ρ:=ρ) (λk=>(acc++cat f 0 (l.take k),(k:Int),())) (step:=step) (good:=good) (λk x hx hk=>by
  rw[hs k x hx hk,Zq9 hx,List.append_assoc]) (by grind)
 simpa[cat] using this
abbrev Pl:=Int×Int×Int×Bool×Unit
def Zfc (i:Nat) (x:Zd):List Pl:=cat (λj n=>[((i:Int),(j:Int),n,decide ((j:Int)=Wq (((Zd.YK x).length:Int)-1)),())]) 0 (Zd.YK x)
def Zf8 (j:Nat) (p:Z8):List Pl:=[((-1:Int),(j:Int),Z8.Net p,decide (Z8.Dir p=1),())]
def Xq (d:Zc):List Pl:=cat Zfc 0 (Zc.Instances d)++cat Zf8 0 (Zc.Xi d)
theorem Zsj (i:Nat) (x:Zd):(Zfc i x).length<=(Zd.YK x).length:=by
 have:=Zfp (f:=λj n=>[((i:Int),(j:Int),n,decide ((j:Int)=Wq (((Zd.YK x).length:Int)-1)),())]) (c:=1) (l:=Zd.YK x) (m:=0) (λ_ _ _=>by simp);simpa[Zfc] using this
structure Few (d:Zc):Prop where
 insts:(Zc.Instances d).length<=14
 ports:(Zc.Xi d).length<=8
 nets:∀ x∈Zc.Instances d,(Zd.YK x).length<=5
theorem Zab.few {a:Zt} {d:Zc} (h:Zab a d):Few d:=by
 refine ⟨h.2.1.1,h.2.1.2.2.1,λx hx=>?_⟩;obtain ⟨_,⟨c,hc,hn⟩,_⟩:=h.2.2.1 x hx;have:=(h.1.2.1 c (List.mem_of_getElem? hc)).2.1.2.1;omega
theorem Zdo {d:Zc} (h:Few d) (k:Nat):(cat Zfc 0 ((Zc.Instances d).take k)).length<=70:=by
 have:=Zfp (f:=Zfc) (c:=5) (l:=(Zc.Instances d).take k) (m:=0) (λi x hx=>by
  have h1:=Zsj i x;have h2:=h.nets x (List.mem_of_mem_take hx);omega)
 have h1:=h.insts;grind
theorem ZgR {d:Zc} (h:Few d) (k:Nat):(cat Zf8 0 ((Zc.Xi d).take k)).length<=8:=by
 have:=Zfp (f:=Zf8) (c:=1) (l:=(Zc.Xi d).take k) (m:=0) (λi x hx=>by simp[Zf8]);have h1:=h.ports;grind
theorem ZdT {d:Zc} (h:Few d):(Xq d).length<=78:=by
 have h1:=Zdo h (Zc.Instances d).length;have h2:=ZgR h (Zc.Xi d).length;rw[List.take_length] at h1 h2;unfold Xq;grind
theorem Vf (d:Zc) (h:Few d):Qm d=some (Xq d):=by
 have h1:=h.insts;have h2:=h.ports;unfold Qm;refine Jp (l:=Zc.Instances d) Zfc [] (λk x hx hk=>?_) ?_
 ·have hn:=h.nets x (List.mem_of_getElem? hx)
  have hl:=Zdo h k;simp only[List.nil_append,VI,show (k:Int)<((Zc.Instances d).length:Int) from by omega,if_true,Zo,hx,Bq];refine Jp (l:=Zd.YK x) (λj n=>[((k:Int),(j:Int),n,decide ((j:Int)=Wq (((Zd.YK x).length:Int)-1)),())]) _ (λj n hj hk'=>?_) ?_
  ·have hl2:=Zfp (f:=λj n=>[((k:Int),(j:Int),n,decide ((j:Int)=Wq (((Zd.YK x).length:Int)-1)),())]) (c:=1) (l:=(Zd.YK x).take j) (m:=0) (λ_ _ _=>by simp)
   rw[List.length_take] at hl2;simp only[VG,show (j:Int)<((Zd.YK x).length:Int) from by omega,if_true,Zo,hj,Bq];rw[Zh (by grind),Xj (by omega)]
  ·simp only[VG,Int.lt_irrefl,if_false]
   rw[Xj (by omega)];rfl
 ·have hl:=Zdo h (Zc.Instances d).length
  rw[List.take_length] at hl;simp only[List.nil_append,VI,Int.lt_irrefl,if_false];refine Jp (l:=Zc.Xi d) Zf8 _ (λj p hj hk'=>?_) ?_
  ·have hl2:=ZgR h j
   simp only[VH,show (j:Int)<((Zc.Xi d).length:Int) from by omega,if_true,Zo,hj,Bq];rw[Zh (by grind),Xj (by omega)];rfl
  ·simp only[VH,Int.lt_irrefl,if_false];rfl
theorem Zat (d:Zc) (h:Few d):Vt d=some (Xq d):=by
 have h1:=h.insts;have h2:=h.ports;unfold Vt;refine Jp (l:=Zc.Instances d) Zfc [] (λk x hx hk=>?_) ?_
 ·have hn:=h.nets x (List.mem_of_getElem? hx)
  have hl:=Zdo h k;simp only[List.nil_append,ZaK,show (k:Int)<((Zc.Instances d).length:Int) from by omega,if_true,Zo,hx,Bq];refine Jp (l:=Zd.YK x) (λj n=>[((k:Int),(j:Int),n,decide ((j:Int)=Wq (((Zd.YK x).length:Int)-1)),())]) _ (λj n hj hk'=>?_) ?_
  ·have hl2:=Zfp (f:=λj n=>[((k:Int),(j:Int),n,decide ((j:Int)=Wq (((Zd.YK x).length:Int)-1)),())]) (c:=1) (l:=(Zd.YK x).take j) (m:=0) (λ_ _ _=>by simp)
   rw[List.length_take] at hl2;simp only[ZaI,show (j:Int)<((Zd.YK x).length:Int) from by omega,if_true,Zo,hj,Bq];rw[Zh (by grind),Xj (by omega)]
  ·simp only[ZaI,Int.lt_irrefl,if_false]
   rw[Xj (by omega)];rfl
 ·have hl:=Zdo h (Zc.Instances d).length
  rw[List.take_length] at hl;simp only[List.nil_append,ZaK,Int.lt_irrefl,if_false];refine Jp (l:=Zc.Xi d) Zf8 _ (λj p hj hk'=>?_) ?_
  ·have hl2:=ZgR h j
   simp only[ZaJ,show (j:Int)<((Zc.Xi d).length:Int) from by omega,if_true,Zo,hj,Bq];rw[Zh (by grind),Xj (by omega)];rfl
  ·simp only[ZaJ,Int.lt_irrefl,if_false];rfl
def ZmB (net:Int) (i:Nat) (x:Pl):List Int:=if x.2.2.1=net then (if x.2.2.2.1=true then [] else [(i:Int)]) else []
def Zhm (d:Zc) (net:Int):List Int:=cat (ZmB net) 0 (Xq d)
theorem ZmC (net:Int) (l:List Pl) (m:Nat):(cat (ZmB net) m l).length<=l.length:=by
 have:=Zfp (f:=ZmB net) (c:=1) (l:=l) (m:=m) (λi x _=>by
  unfold ZmB;grind)
 omega
theorem ZdC (d:Zc) (net:Int) (h:Few d):Zai d net=some (Zhm d net):=by
 have hp:=ZdT h;unfold Zai;rw[Vf d h,Bq];refine Jp (l:=Xq d) (ZmB net) [] (λk x hx hk=>?_) ?_
 ·have hl:=ZmC net ((Xq d).take k) 0
  rw[List.length_take] at hl;simp only[List.nil_append,V6,show (k:Int)<((Xq d).length:Int) from by omega,if_true,Zo,hx,Bq,ZmB,Xj (show k<=1048576 by omega)];split
  ·split
   ·rw[List.append_nil]
   ·rw[Zh (by
     grind)]
  grind
 ·simp only[List.nil_append,V6,Int.lt_irrefl,if_false];rfl
theorem Zgb (d:Zc) (net:Int) (h:Few d):Zcn d net=some (Zhm d net):=by
 have hp:=ZdT h;unfold Zcn;rw[Zat d h,Bq];refine Jp (l:=Xq d) (ZmB net) [] (λk x hx hk=>?_) ?_
 ·have hl:=ZmC net ((Xq d).take k) 0
  rw[List.length_take] at hl;simp only[List.nil_append,Zbv,show (k:Int)<((Xq d).length:Int) from by omega,if_true,Zo,hx,Bq,ZmB,Xj (show k<=1048576 by omega)];split
  ·split
   ·rw[List.append_nil]
   ·rw[Zh (by
     grind)]
  grind
 ·simp only[List.nil_append,Zbv,Int.lt_irrefl,if_false];rfl
def loads (d:Zc):List Int:=((Xq d).filter (λx=>!x.2.2.2.1)).map (λx=>x.2.2.1)
theorem ZmD (net:Int):∀ (l:List Pl) (m:Nat),(cat (ZmB net) m l).length=((l.filter (λx=>!x.2.2.2.1)).map (λx=>x.2.2.1)).countP (λy=>decide (y=net))
 | [],m=>by simp[cat]
 | x::r,m=>by
  simp only[cat,List.length_append,ZmD net r,ZmB];grind
theorem Zur {w:ZJ} (h:sm Vu w):sm (.sl (.int .i64)) (ZJ.Parent w)/\sm (.sl (.int .i64)) (ZJ.Res w)/\sm (.sl (.int .i64)) (ZJ.Cap w)/\sm (.sl (.int .i64)) (ZJ.Zkx w):=by
 refine ⟨?_,?_,?_,?_⟩;all_goals first | exact h.1 | exact h.2.1 | exact h.2.2.1 | exact h.2.2.2.1
theorem ZoR {b:Ze} (h:sm Yz b):sm YL (Ze.Library b)/\sm YJ (Ze.Design b)/\sm (.sl Vu) (Ze.QZ b):=by
 refine ⟨?_,?_,?_⟩;all_goals first | exact h.1 | exact h.2.1 | exact h.2.2.1 | exact h.2.2.2.1
def Zls (w:ZJ) (k:Nat) (x:Int):Prop:=(k=0->x=-1/\(ZJ.Res w)[0]?=some 0)/\(0<k->0<=x/\x<=(k:Int)-1)
def ZgL (w:ZJ) (s:Int):Prop :=
 (1<=(ZJ.Parent w).length/\(ZJ.Parent w).length<=8)/\(ZJ.Res w).length=(ZJ.Parent w).length/\(ZJ.Cap w).length=(ZJ.Parent w).length/\((ZJ.Zkx w).length:Int)=s/\
 Ze6 (ZJ.Parent w) (Zls w)/\Ze7 (ZJ.Res w) 0 1000/\Ze7 (ZJ.Cap w) 0 500/\Ze7 (ZJ.Zkx w) 0 (((ZJ.Parent w).length:Int)-1)
theorem Zeq (l:List Int) (lo hi:Int) (hl:l.length<=1048576):Xp l lo hi=some (tr (Ze7 l lo hi)):=by
 rw[Zaj l lo hi (by omega)];exact Zdz (ZiW _ _ _)
theorem Zim (w:ZJ) (hw:sm Vu w) (h1:1<=(ZJ.Parent w).length) (h2:(ZJ.Res w).length=(ZJ.Parent w).length):Za0 w=some (tr (Ze6 (ZJ.Parent w) (Zls w))):=by
 obtain ⟨a1,a2,a3,a4⟩:=Zur hw;have s1:=ZN a1;unfold Za0;have hr:(ZJ.Res w)[0]?=some (ZJ.Res w)[0]:=List.getElem?_eq_getElem (by omega);rw[Je (XB a1) (Zls w) (bad:=false) (good:=true)
  (λk x hx hk _=>by
   simp only[Jw,show (k:Int)<((ZJ.Parent w).length:Int) from by omega,if_true,Zo,hx,Bq];unfold Zls;by_cases hk0:k=0
   ·subst hk0
    rw[if_pos (by rfl),show atI (ZJ.Res w) 0=some (ZJ.Res w)[0] from hr,hr];grind
   ·rw[if_neg (by omega),if_pos (by omega),Jo,Bq,XG (by omega) (by omega)]
    constructor
    ·intro hh;rw[if_pos (Yt (hh.2 (by omega)))]
    ·intro hh;rw[if_neg (λq=>hh ⟨λh=>absurd h hk0,λ_=>(Xn _).1 q⟩)])
  (λ_=>by simp only[Jw,Int.lt_irrefl,if_false]),ZmA]
theorem Zm6 (w:ZJ) (s:Int) (hw:sm Vu w):Zfx w s=some (tr (ZgL w s)):=by
 obtain ⟨a1,a2,a3,a4⟩:=Zur hw;have s1:=ZN a1;have s2:=ZN a2;have s3:=ZN a3;have s4:=ZN a4;unfold Zfx;simp only[Zaz,Bq,XG (show (-9223372036854775808:Int)<=((ZJ.Parent w).length:Int)-1 by omega) (by omega)];refine Zd5 (Xk (Jo _ _ _) (λq1=>XE (λq2=>XE (λq3=>Xk (Zim w hw (by omega) (by omega)) (λq4=>Xk (Zeq _ _ _ s2) (λq5=>Xk (Zeq _ _ _ s3) (λq6=>XE (λq7=>ZjO (Zeq _ _ _ s4))))))))) ?_;unfold ZgL;grind
theorem ZqX {l:List Int} {lo hi:Int}:Ze7 l lo hi<->∀ (k:Nat) (x:Int),l[k]?=some x->lo<=x/\x<=hi:=by
 unfold Ze7;constructor
 ·intro h k x hx;exact h x (List.mem_of_getElem? hx)
 ·intro h x hx
  obtain ⟨k,hk⟩:=List.mem_iff_getElem?.1 hx;exact h k x hk
theorem Znv (w:ZJ) (s:Int) (hw:sm Vu w):ZfS w s=some (tr (ZgL w s)):=by
 obtain ⟨a1,a2,a3,a4⟩:=Zur hw;have s1:=ZN a1;have s2:=ZN a2;have s3:=ZN a3;have s4:=ZN a4;have e1:Wq (((ZJ.Parent w).length:Int)-1)=((ZJ.Parent w).length:Int)-1:=XG (by omega) (by omega);unfold ZfS;refine Zd5 (Zfo (λq1=>Zfo (λq2=>XE (λq3=>XE (λq4=>XE (λq5=>?_)))))) ?_
  (P:=¬((ZJ.Parent w).length:Int)<1/\¬(8:Int)<((ZJ.Parent w).length:Int)/\((ZJ.Res w).length:Int)=((ZJ.Parent w).length:Int)/\((ZJ.Cap w).length:Int)=((ZJ.Parent w).length:Int)/\((ZJ.Zkx w).length:Int)=s/\
   (Ze6 (ZJ.Parent w) (λk x=>(∀ c,(ZJ.Cap w)[k]?=some c->0<=c/\c<=500)/\(∀ r,(ZJ.Res w)[k]?=some r->0<=r/\r<=1000)/\Zls w k x)/\Ze7 (ZJ.Zkx w) 0 (((ZJ.Parent w).length:Int)-1)))
 ·rw[Je (XB a1) (λk x=>(∀ c,(ZJ.Cap w)[k]?=some c->0<=c/\c<=500)/\(∀ r,(ZJ.Res w)[k]?=some r->0<=r/\r<=1000)/\Zls w k x) (bad:=false) (good:=tr (Ze7 (ZJ.Zkx w) 0 (((ZJ.Parent w).length:Int)-1)))
   (λk x hx hk _=>by
    have hc:(ZJ.Cap w)[k]?=some (ZJ.Cap w)[k]:=List.getElem?_eq_getElem (by omega);have hr:(ZJ.Res w)[k]?=some (ZJ.Res w)[k]:=List.getElem?_eq_getElem (by omega);simp only[ZcO,show (k:Int)<((ZJ.Parent w).length:Int) from by omega,if_true,Zo,hc,hr,hx,Bq,Vx,Option.some.injEq,forall_eq'];generalize (ZJ.Cap w)[k]=c at hc;generalize (ZJ.Res w)[k]=r at hr;by_cases qc:0<=c/\c<=500
    ·rw[if_pos (Yt qc)]
     by_cases qr:0<=r/\r<=1000
     ·rw[if_pos (Yt qr)]
      unfold Zls;by_cases hk0:k=0
      ·simp_all
      ·rw[if_neg (by omega),if_pos (by omega),XG (show (-9223372036854775808:Int)<=(k:Int)-1 by omega) (by omega)]
       constructor
       ·intro hh;rw[if_pos (Yt (hh.2.2.2 (by omega)))]
       ·intro hh;rw[if_neg (λq=>hh ⟨qc,qr,λh=>absurd h hk0,λ_=>(Xn _).1 q⟩)]
     ·rw[if_neg (λq=>qr ((Xn _).1 q))]
      grind
    ·rw[if_neg (λq=>qc ((Xn _).1 q))]
     grind)
   (λ_=>by
    simp only[ZcO,Int.lt_irrefl,if_false];rw[Je (XB a4) (λ_ x=>0<=x/\x<=((ZJ.Parent w).length:Int)-1) (bad:=.inr false) (good:=.inr true)
     (λk x hx hk _=>by
      simp only[ZcN,show (k:Int)<((ZJ.Zkx w).length:Int) from by omega,if_true,Zo,hx,Bq,Vx,e1];constructor
      ·intro hh;rw[if_pos (Yt hh)]
      ·intro hh;rw[if_neg (λq=>hh ((Xn _).1 q))])
     (λ_=>by simp only[ZcN,Int.lt_irrefl,if_false])]
    congr 1;have e:Ze6 (ZJ.Zkx w) (λ_ x=>0<=x/\x<=((ZJ.Parent w).length:Int)-1)<->Ze7 (ZJ.Zkx w) 0 (((ZJ.Parent w).length:Int)-1):=ZaW;by_cases hh:Ze7 (ZJ.Zkx w) 0 (((ZJ.Parent w).length:Int)-1)
    ·rw[X9 (e.2 hh),Yt hh]
    ·rw[Xy (λq=>hh (e.1 q)),Yl hh]),ZjF]
 ·unfold ZgL
  rw[ZqX (l:=ZJ.Res w),ZqX (l:=ZJ.Cap w)];constructor
  ·rintro ⟨q1,q2,q3,q4,q5,q6,q7⟩
   refine ⟨⟨by omega,by omega⟩,by omega,by omega,q5,λk x hx=>(q6 k x hx).2.2,λk r hr=>?_,λk c hc=>?_,q7⟩
   ·have hk:=(List.getElem?_eq_some_iff.1 hr).1
    exact (q6 k _ (List.getElem?_eq_getElem (by omega))).2.1 r hr
   ·have hk:=(List.getElem?_eq_some_iff.1 hc).1
    exact (q6 k _ (List.getElem?_eq_getElem (by omega))).1 c hc
  ·rintro ⟨q1,q2,q3,q5,q6,q7,q8,q9⟩
   exact ⟨by omega,by omega,by omega,by omega,q5,λk x hx=>⟨λc hc=>q8 k c hc,λr hr=>q7 k r hr,q6 k x hx⟩,q9⟩
def Zdv (b:Ze):Prop :=
 Zab (Ze.Library b) (Ze.Design b)/\(Ze.QZ b).length=(Zc.YK (Ze.Design b)).length/\Ze6 (Ze.QZ b) (λk w=>ZgL w ((Zhm (Ze.Design b) (k:Int)).length:Int))
theorem Zua {a:Zt} {d:Zc} (h:Zab a d) {x:Pl} (hx:x∈Xq d):Zn4 d x.2.2.1:=by
 unfold Xq at hx;rcases List.mem_append.1 hx with hx | hx
 ·obtain ⟨i,z,hi,hz⟩:=ZcI.1 hx
  unfold Zfc at hz;obtain ⟨j,n,hj,hn⟩:=ZcI.1 hz;simp only[List.mem_singleton] at hn;subst hn;exact (h.2.2.1 z (List.mem_of_getElem? hi)).2.2 n (List.mem_of_getElem? hj)
 ·obtain ⟨j,p,hj,hp⟩:=ZcI.1 hx
  simp only[Zf8,List.mem_singleton] at hp;subst hp;exact (h.2.2.2.1 p (List.mem_of_getElem? hj)).2
theorem Zej (b:Ze) (hb:sm Yz b):ZbG b=some (tr (Zdv b)):=by
 obtain ⟨a1,a2,a3⟩:=ZoR hb;have s3:=ZN a3;unfold ZbG;refine Zd5 (Xk (Zga _ _ a1 a2) (λhD=>XE (λq1=>?_))) ?_
  (P:=Zab (Ze.Library b) (Ze.Design b)/\((Ze.QZ b).length:Int)=((Zc.YK (Ze.Design b)).length:Int)/\Ze6 (Ze.QZ b) (λk w=>ZgL w ((Zhm (Ze.Design b) (k:Int)).length:Int)))
 ·rw[Je (XB a3) (λk w=>ZgL w ((Zhm (Ze.Design b) (k:Int)).length:Int)) (bad:=false) (good:=true)
   (λk w hx hk _=>by
    simp only[Zcg,show (k:Int)<((Ze.QZ b).length:Int) from by omega,if_true,Zo,hx,Bq,Zgb _ _ hD.few,Znv w _ (Zie a3 hx)];constructor
    ·intro hh;rw[if_pos (Yt hh)]
    ·intro hh;rw[if_neg (λq=>hh ((Xn _).1 q))])
   (λ_=>by simp only[Zcg,Int.lt_irrefl,if_false]),ZmA]
 ·unfold Zdv
  grind
theorem Zss {l:List Pl} {k:Nat} {x:Pl} (hx:l[k]?=some x) :
  (((l.take (k+1)).filter (λx=>!x.2.2.2.1)).map (λx=>x.2.2.1))=if x.2.2.2.1=true then (((l.take k).filter (λx=>!x.2.2.2.1)).map (λx=>x.2.2.1)) else (((l.take k).filter (λx=>!x.2.2.2.1)).map (λx=>x.2.2.1))++[x.2.2.1]:=by
 rw[Yp hx,List.filter_append,List.map_append];grind
theorem ZlM (b:Ze) (hb:sm Yz b):Zew b=some (tr (Zdv b)):=by
 obtain ⟨a1,a2,a3⟩:=ZoR hb;have s3:=ZN a3;unfold Zew;refine Zd5 (Xk (ZkQ _ _ a1 a2) (λhD=>XE (λq1=>?_))) ?_
  (P:=Zab (Ze.Library b) (Ze.Design b)/\((Ze.QZ b).length:Int)=((Zc.YK (Ze.Design b)).length:Int)/\Ze6 (Ze.QZ b) (λk w=>ZgL w ((Zhm (Ze.Design b) (k:Int)).length:Int)))
 ·rw[Zh (by omega),Zh (by omega),Zh (by omega),Zh (by omega),Vf _ hD.few,Bq]
  have hpl:=ZdT hD.few;have:=YO (l:=Xq (Ze.Design b)) (ρ:=Bool) (λk=>((k:Int),Zlc (Ze.QZ b).length ((((Xq (Ze.Design b)).take k).filter (λx=>!x.2.2.2.1)).map (λx=>x.2.2.1)),())) (step:=λv=>JB b (Xq (Ze.Design b)) v.1 v.2.1) (good:=tr (Ze6 (Ze.QZ b) (λk w=>ZgL w ((Zhm (Ze.Design b) (k:Int)).length:Int))))
   (λk x hx hk=>by
    have hn:=Zua hD (List.mem_of_getElem? hx);have hl1:=List.length_filter_le (λx:Pl=>!x.2.2.2.1) ((Xq (Ze.Design b)).take k);rw[List.length_take] at hl1;simp only[JB,show (k:Int)<((Xq (Ze.Design b)).length:Int) from by omega,if_true,Zo,hx,Bq,Zss hx];by_cases hd:x.2.2.2.1=true
    ·rw[if_pos hd,if_pos hd,Xj (by omega)]
    ·rw[if_neg hd,if_neg hd,ZgS hn.1 (by have:=hn.2;grind) (by grind) (F:=λo=>some (Sum.inl (Wq ((k:Int)+1),o,()))),Xj (by omega)])
   (by
    simp only[JB,Int.lt_irrefl,if_false,List.take_length];rw[Je (XB a3) (λk w=>ZgL w ((Zhm (Ze.Design b) (k:Int)).length:Int)) (bad:=.inr false) (good:=.inr true)
     (λk w hx hk _=>by
      have hc:(Zhm (Ze.Design b) (k:Int)).length=_:=ZmD (k:Int) (Xq (Ze.Design b)) 0;simp only[ZbZ,show (k:Int)<((Ze.QZ b).length:Int) from by omega,if_true,Zo,hx,Bq];rw[Zfq hk,Bq,Zm6 w _ (Zie a3 hx),Bq,hc];constructor
      ·intro hh;rw[if_pos (Yt hh)]
      ·intro hh;rw[if_neg (λq=>hh ((Xn _).1 q))])
     (λ_=>by simp only[ZbZ,Int.lt_irrefl,if_false])]
    congr 1;by_cases hh:Ze6 (Ze.QZ b) (λk w=>ZgL w ((Zhm (Ze.Design b) (k:Int)).length:Int))
    ·rw[X9 hh,Yt hh]
    ·rw[Xy hh,Yl hh])
  rw[List.take_zero,List.filter_nil,List.map_nil,Zob] at this;exact this
 ·unfold Zdv
  grind
structure Va (b:Ze):Prop where
 ok:Zdv b
 sm:sm Yz b
theorem Zw6 {α τ ρ:Type} {l:List α} (I:Nat->τ->Prop) (Q:ρ->Prop) {step:τ->Option (τ ⊕ ρ)} {v:τ} (h0:I 0 v)
  (hs:∀ (k:Nat) (x:α) (v:τ),l[k]?=some x->k<l.length->I k v->∃ v',step v=some (.inl v')/\I (k+1) v')
  (hx:∀ v,I l.length v->∃ r,step v=some (.inr r)/\Q r):∃ r,Zn step v=some r/\Q r :=
 Xa l.length I Q h0 (λk v hk hI=>.inl (hs k l[k] v (List.getElem?_eq_getElem hk) hk hI)) hx
theorem ZwI {α:Type} {l:List α} {i:Int} (h0:0<=i) (h1:i<(l.length:Int)):∃ x,atI l i=some x/\x∈l:=by
 obtain ⟨x,h2,h3⟩:=Zq2 h0 h1;grind
theorem Zt9 {a:Zt} {d:Zc} (h:Zab a d) {x:Pl} (hx:x∈Xq d):∃ n,Zah d a x=some n:=by
 unfold Zah;split
 ·exact ⟨_,rfl⟩
 ·rename_i hneg
  unfold Xq at hx;rcases List.mem_append.1 hx with hx | hx
  ·obtain ⟨i,z,hi,hz⟩:=ZcI.1 hx
   unfold Zfc at hz;obtain ⟨j,n,hj,hn⟩:=ZcI.1 hz;simp only[List.mem_singleton] at hn;subst hn;rw[Nat.zero_add] at hneg;obtain ⟨hc,⟨c,hc1,hc2⟩,_⟩:=h.2.2.1 z (List.mem_of_getElem? hi);have hj2:=(List.getElem?_eq_some_iff.1 hj).1;simp only[Qg.instance,Qg.pin,Nat.zero_add,Zo,hi,Bq];rw[ZcU hc.1 hc1,Bq];grind
  ·obtain ⟨j,p,hj,hp⟩:=ZcI.1 hx
   simp only[Zf8,List.mem_singleton] at hp;grind
theorem ZtZ {d:Zc} {net y:Int} (h:y∈Zhm d net):0<=y/\y<((Xq d).length:Int):=by
 obtain ⟨k,x,hk,hy⟩:=ZcI.1 h;have:=(List.getElem?_eq_some_iff.1 hk).1;unfold ZmB at hy;grind
theorem ZoG {b:Ze} (h:Va b) {k:Nat} {w:ZJ} (hw:(Ze.QZ b)[k]?=some w):∃ r,YT b (k:Int)=some r/\r.length=(ZJ.Parent w).length:=by
 have hW:=h.ok.2.2 k w hw;have hD:=h.ok.1;have hf:=hD.few;obtain ⟨⟨l1,l8⟩,lr,lc,ls,ht,ar,ac,asn⟩:=hW;have hpl:=ZdT hf;have hsl:=ZmC (k:Int) (Xq (Ze.Design b)) 0;have hsl2:(Zhm (Ze.Design b) (k:Int)).length<=78:=by unfold Zhm;omega
 unfold YT;rw[Zo,hw,Bq];unfold Qe;rw[Zh (by simp;omega),Bq,Vf _ hf,Bq,ZdC _ _ hf,Bq];refine Zw6 (l:=Zhm (Ze.Design b) (k:Int)) (λm v=>v.1=(m:Int)/\v.2.1.length=(ZJ.Parent w).length) _ ⟨rfl,by simp;omega⟩ ?_ ?_
 ·rintro m y ⟨i,l,⟨⟩⟩ hy hm ⟨hi,hl⟩
  simp only at hi hl;subst hi;have hz:(ZJ.Zkx w)[m]?=some (ZJ.Zkx w)[m]:=List.getElem?_eq_getElem (by omega);generalize (ZJ.Zkx w)[m]=z at hz;have hz2:=asn z (List.mem_of_getElem? hz);obtain ⟨q,hq1,_⟩:=ZwI (l:=l) hz2.1 (by omega);obtain ⟨hy1,hy2⟩:=ZtZ (List.mem_of_getElem? hy);obtain ⟨p,hp1,hp2⟩:=ZwI hy1 hy2;obtain ⟨c,hc⟩:=Zt9 hD hp2;simp only[X0,show (m:Int)<((Zhm (Ze.Design b) (k:Int)).length:Int) from by omega,if_true,Zo,hy,hz,Bq,hq1,hp1,hc];exact ⟨_,rfl,by rw[Xj (by omega)],by simp[hl]⟩
 ·rintro ⟨i,l,⟨⟩⟩ ⟨hi,hl⟩
  simp only at hi hl;subst hi;simp only[X0,Int.lt_irrefl,if_false];have:=VR (σ:=Int×List Int×Unit) (ρ:=(Int×List Int×Unit) ⊕ List Int) (step:=λv=>Q5 w v.1 v.2.1) (λv=>(∃ j:Nat,v.1=(j:Int)/\j<(ZJ.Parent w).length)/\v.2.1.length=(ZJ.Parent w).length) (λv=>v.1.toNat) (λr=>∃ r',r=.inr r'/\r'.length=(ZJ.Parent w).length) (v:=(Wq ((l.length:Int)-1),l,()))
   ⟨⟨l.length-1,by show Wq _=_;rw[Zky (by omega) (by omega)],by omega⟩,hl⟩
   (by
    rintro ⟨i,l,⟨⟩⟩ ⟨⟨j,hj,hj2⟩,hl⟩;simp only at hj hl;subst hj;simp only[Q5];by_cases h0:(0:Int)<(j:Int)
    ·rw[if_pos h0]
     have hp:(ZJ.Parent w)[j]?=some (ZJ.Parent w)[j]:=List.getElem?_eq_getElem (by omega);generalize (ZJ.Parent w)[j]=p at hp;have hp2:=(ht j p hp).2 (by omega);obtain ⟨q,hq1,_⟩:=ZwI (l:=l) hp2.1 (by omega);have hl2:l[j]?=some l[j]:=List.getElem?_eq_getElem (by omega);simp only[Zo,hp,Bq,hq1,hl2];left;refine ⟨_,rfl,⟨⟨j-1,by rw[Zky (by omega) (by omega)],by omega⟩,by simp[hl]⟩,?_⟩;show (Wq ((j:Int)-1)).toNat<((j:Int)).toNat;rw[Zky (by omega) (by omega)];omega
    grind)
  grind
theorem ZgV {α:Type} {p:α->Bool} {l:List α} {k:Nat} {x:α} (hx:l[k]?=some x) (hp:p x=true) (hf:∀ (j:Nat) (y:α),j<k->l[j]?=some y->p y=false):XI p l=(k:Int):=by
 have hk:=(List.getElem?_eq_some_iff.1 hx);have:l.findIdx? p=some k:=by
  rw[List.findIdx?_eq_some_iff_getElem];refine ⟨hk.1,by rw[hk.2];exact hp,λj hj=>?_⟩;have:=hf j (l[j]'(by have:=hk.1;omega)) hj (List.getElem?_eq_getElem _);simp[this]
 unfold XI;rw[this]
theorem Zkv (d:Zc) (n:Int) (h:Few d):Zdb d n=some (XI (λx:Pl=>decide (x.2.2.1=n)&&x.2.2.2.1) (Xq d)):=by
 have hpl:=ZdT h;unfold Zdb;rw[Zat d h,Bq];refine Zam (out:=λi=>i) (show Len (Xq d) by show List.length _<=_;omega) (λk x hx=>?_) ?_
 ·have hk:=(List.getElem?_eq_some_iff.1 hx).1
  simp only[ZaH,show (k:Int)<((Xq d).length:Int) from by omega,if_true,Zo,hx,Bq,Bool.and_eq_true,decide_eq_true_eq];split
  ·rename_i e1
   split
   ·rename_i e2;rw[if_pos ⟨e1,e2⟩]
   ·rename_i e2;rw[if_neg (λq=>e2 q.2)]
  ·rename_i e1;rw[if_neg (λq=>e1 q.1)]
 ·simp only[ZaH,Int.lt_irrefl,if_false]
theorem Zqj {i:Nat} {x:Zd} {a:Zt} {d:Zc} (hl:Zo4 a) (h:Zf0 a d x) (hsm:(Zd.YK x).length<=1048576):((Zfc i x).filter (λy=>y.2.2.2.1)).map (λy=>y.2.2.1)=[YQ x]:=by
 obtain ⟨_,⟨c,hc,hn⟩,_⟩:=h;have h2:2<=(Zm.YR c).length:=(hl.2.1 c (List.mem_of_getElem? hc)).2.1.1;unfold Zfc YQ;rw[Zky hsm (by omega)];generalize hN:Zd.YK x=l;rw[hN] at hn;have hne:l.length≠0:=by omega
 have gen:∀ (l:List Int) (m n:Nat),m+l.length=n+1->l.length≠0->((cat (λj n'=>[((i:Int),(j:Int),n',decide ((j:Int)=((n:Nat):Int)),())]) m l).filter (λy:Pl=>y.2.2.2.1)).map (λy=>y.2.2.1)=[l.getLastD 0]:=by
  intro l;induction l with
  | nil=>intro m n _ h0;simp at h0
  | cons y r ih =>
   intro m n hm _;by_cases hr:r=[]
   ·subst hr
    simp only[List.length_cons,List.length_nil] at hm;have:(m:Int)=(n:Int):=by omega
    simp[cat,this]
   ·have hrl:r.length≠0:=λe=>hr (List.eq_nil_of_length_eq_zero e)
    simp only[List.length_cons] at hm;have hmn:¬(m:Int)=(n:Int):=by omega
    have:=ih (m+1) n (by omega) hrl;simp only[cat,List.cons_append,List.nil_append];rw[List.filter_cons_of_neg (by simp[hmn]),this];cases r with
    | nil=>exact absurd rfl hr
    | cons z q=>simp[List.getLastD_cons]
 exact gen l 0 (l.length-1) (by omega) hne
theorem Zqk (j:Nat) (p:Z8):((Zf8 j p).filter (λy=>y.2.2.2.1)).map (λy=>y.2.2.1)=if Z8.Dir p=1 then [Z8.Net p] else []:=by
 unfold Zf8;by_cases h:Z8.Dir p=1
 ·simp[h]
 ·simp[h]
theorem Zsg {a:Zt} {d:Zc} (h:Zab a d) (hsm:sm YJ d):((Xq d).filter (λy=>y.2.2.2.1)).map (λy=>y.2.2.1)=Zvd d:=by
 unfold Xq Zvd;rw[List.filter_append,List.map_append];congr 1
 ·have:∀ (l:List Zd) (m:Nat),(∀ x∈l,Zf0 a d x/\(Zd.YK x).length<=1048576)->((cat Zfc m l).filter (λy=>y.2.2.2.1)).map (λy=>y.2.2.1)=l.map YQ:=by
   intro l;induction l with
   | nil=>intro m _;rfl
   | cons x r ih =>
    intro m hl;have hx:=hl x (by simp);simp only[cat,List.filter_append,List.map_append,List.map_cons];rw[Zqj h.1 hx.1 hx.2,ih (m+1) (λy hy=>hl y (by simp[hy]))];rfl
  exact this _ 0 (λx hx=>⟨h.2.2.1 x hx,ZN (ZnY (ZpP (ZhG hsm).1 hx)).2⟩)
 ·have:∀ (l:List Z8) (m:Nat),((cat Zf8 m l).filter (λy=>y.2.2.2.1)).map (λy=>y.2.2.1)=(l.filter (λp=>decide (Z8.Dir p=1))).map Z8.Net:=by
   intro l;induction l with
   | nil=>intro m;rfl
   | cons p r ih =>
    intro m;simp only[cat,List.filter_append,List.map_append];rw[Zqk,ih (m+1)];by_cases hd:Z8.Dir p=1
    ·simp[hd]
    ·simp[hd]
  exact this _ 0
theorem Zhv {α:Type} {p:α->Bool} {l:List α} {i j:Nat} {a b:α} (hij:i<j) (ha:l[i]?=some a) (hb:l[j]?=some b) (pa:p a=true) (pb:p b=true):2<=l.countP p:=by
 have e:l.countP p=(l.take j).countP p+(l.drop j).countP p:=by rw[<-List.countP_append,List.take_append_drop]
 have h1:0<(l.take j).countP p:=List.countP_pos_iff.2 ⟨a,List.mem_iff_getElem?.2 ⟨i,by rw[List.getElem?_take,if_pos hij];exact ha⟩,pa⟩;have h2:0<(l.drop j).countP p:=List.countP_pos_iff.2 ⟨b,List.mem_iff_getElem?.2 ⟨0,by rw[List.getElem?_drop];exact hb⟩,pb⟩;omega
def Zvc (n:Int) (x:Pl):Bool:=decide (x.2.2.1=n)&&x.2.2.2.1
def Zyv (d:Zc) (n:Int):Int:=XI (Zvc n) (Xq d)
theorem Ztn {a:Zt} {d:Zc} (h:Zab a d) (hsm:sm YJ d) {v:Nat} (hv:v<(Zc.YK d).length):(Xq d).countP (Zvc (v:Int))=1:=by
 have h1:=h.2.2.2.2 _ (List.mem_of_getElem? (Zfq (s:=Zvd d) hv));rw[<-Zsg h hsm,List.countP_map,List.countP_filter] at h1;have e:(Xq d).countP (Zvc (v:Int))=(Xq d).countP (λy=>((λx=>decide (x=(v:Int)))∘λy:Pl=>y.2.2.1) y&&y.2.2.2.1):=rfl;rw[e];omega
theorem Zyw {a:Zt} {d:Zc} (h:Zab a d) (hsm:sm YJ d) {v:Nat} (hv:v<(Zc.YK d).length) :
  ∃ (q:Nat) (y:Pl),(Xq d)[q]?=some y/\Zvc (v:Int) y=true/\Zyv d (v:Int)=(q:Int)/\∀ (p:Nat) (z:Pl),(Xq d)[p]?=some z->Zvc (v:Int) z=true->p=q:=by
 have hc:=Ztn h hsm hv;obtain ⟨y,hy,hp⟩:=List.countP_pos_iff.1 (show 0<(Xq d).countP (Zvc (v:Int)) by omega);obtain ⟨q,hq⟩:=List.mem_iff_getElem?.1 hy;have uniq:∀ (p:Nat) (z:Pl),(Xq d)[p]?=some z->Zvc (v:Int) z=true->p=q:=by
  intro p z hz hpz;rcases Nat.lt_trichotomy p q with hlt | he | hlt
  ·have:=Zhv hlt hz hq hpz hp;omega
  ·exact he
  ·have:=Zhv hlt hq hz hp hpz;omega
 refine ⟨q,y,hq,hp,ZgV hq hp (λj z hj hz=>?_),uniq⟩;cases hb:Zvc (v:Int) z
 ·rfl
 ·have:=uniq j z hz hb;omega
end Go.Proofs.YtioiomifapgimaaGreatDoor
