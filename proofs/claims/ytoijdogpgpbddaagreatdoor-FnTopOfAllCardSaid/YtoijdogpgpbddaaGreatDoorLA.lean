/-
  Ground of the plain laws: loops by what they come to; small arithmetic.
-/
import Derived.Test.YtoijdogpgpbddaaGreatDoorE1
import Derived.IntWalk
import Derived.Test.YtoijdogpgpbddaaGreatDoorM
namespace Go.Proofs.YtoijdogpgpbddaaGreatDoor
set_option linter.unusedVariables false
set_option linter.unusedSimpArgs false
open Go Go.Sx
theorem YI {n:Int} (d:-9223372036854775808<=n:=by omega) (f:n<=9223372036854775807:=by omega):Wq n=n:=IntWalk.i64_in n ⟨d,f⟩
theorem QR{n:Int}(a:-9223372036854775808<=n:=by omega)(b:n<=9223372036854775807:=by omega):Wq n=n:=YI a b
variable {α:Type}
theorem Zp (l:List α) (k:Nat):atI l (k:Int)=l[k]?:=by simp[atI]
variable {l:List α} {i:Int} {x:α}
theorem Yr (m:0<=i) (h:l[i.toNat]?=some x):atI l i=some x:=by simp[atI,m,h]
theorem Zrw (m:0<=i) (d:i<l.length):∃x,atI l i=some x/\l[i.toNat]?=some x :=
 ⟨l[i.toNat]'(by omega),by simp[atI,m],Ub _⟩
variable {p:Prop}
theorem Zk (h:p) (a:Option α):Zy p a=a:=by
 unfold Zy;exact Uc h
theorem Ra{α:Type}{p:Prop}{a:Option α}(h:p:=by omega):Zy p a=a:=Zk h a
variable {τ ρ:Type} (n:Nat) (I:Nat->τ->Prop) {v:τ}
theorem Zfz {step:τ->Option (τ⊕ρ)} (Q:ρ->Prop) (H:I 0 v)
  (s:∀k v,k<n->I k v->(∃v',step v=some (.inl v')/\I (k+1) v')\/∃r,step v=some (.inr r)/\Q r)
  (l:∀v,I n v->∃r,step v=some (.inr r)/\Q r):∃r,ZA step v=some r/\Q r:=by
 have:∀m k v,k+m=n->I k v->∃r,ZA step v=some r/\Q r:=by
  intro m;induction m with
  |zero =>
   intro k v a h;have:k=n:=by omega
   subst this;obtain⟨r,e,b⟩:=l v h;exact⟨r,Y1 e,b⟩
  |succ m i =>
   intro k v a h;rcases s k v (by omega) h with⟨v',e,q⟩|⟨r,e,b⟩
   ·obtain⟨r,d,f⟩:=i (k+1) v' (by omega) q
    exact⟨r,by rw[Xk e];exact d,f⟩
   ·exact⟨r,Y1 e,b⟩
 exact this n 0 v (by omega) H
theorem XJ {step:τ->Option (τ⊕ρ)} (R:ρ) (H:I 0 v)
  (q:∀k v,k<n->I k v->(∃v',step v=some (.inl v')/\I (k+1) v')\/step v=some (.inr R))
  (l:∀v,I n v->step v=some (.inr R)):ZA step v=some R:=by
 obtain⟨r,d,f⟩:=Zfz n I (λr=>r=R) H (λk v a m=>(q k v a m).elim .inl (λh=>.inr ⟨R,h,rfl⟩)) (λv m=>⟨R,l v m,rfl⟩);rw[d,f]
variable {k:Nat}
theorem Xf (h:l[k]?=some x):l.take (k+1)=l.take k++[x]:=by
 rw[List.take_add_one,h];rfl
theorem ZAT {g:Nat->Option ρ} {v:ρ} (h:∃n,g n=some v) (N:∀n r,g n=some r->r=v):ZGW g=some v:=by
 obtain⟨n,f⟩:=h;unfold ZGW;have l:∃r n,g n=some r:=⟨v,n,f⟩;grind
def sm:(t:Ty)->t.den->Prop
 | .str,s=>(s.length:Int)<=1048576
 | .sl t,l=>(l.length:Int)<=1048576/\∀x∈l,sm t x
 | .pair a b,d=>sm a d.1/\sm b d.2
 |_,_=>True
noncomputable def tr (p:Prop):Bool:=@decide p (Classical.propDecidable p)
variable {b:Bool}
theorem Zrm (h:b=true<->p):tr p=b:=by
 unfold tr;grind
theorem YS (p:Prop):tr p=true<->p:=by simp[tr]
theorem ZY (h:p):tr p=true:=(YS p).2 h
theorem Yq (h:¬p):tr p=false:=by simp[tr,h]
def within (n a b:Int):Bool:=decide (a<=n)&&decide (n<=b)
theorem Zc9 (n a b:Int):YC n a b=some (within n a b):=by
 unfold YC within;split<;>simp[*]
theorem Zf6 (n a b:Int):Z4 n a b=some (within n a b):=by
 unfold Z4 within;split<;>simp[*]
theorem Jv (n a b:Int):within n a b=true<->a<=n/\n<=b:=by simp[within]
def Zi3 (b:UInt8):Bool:=decide (97<=b.toNat)&&decide (b.toNat<=122)
def ZnM (b:UInt8):Bool:=decide (48<=b.toNat)&&decide (b.toNat<=57)
def Zbr (s:List UInt8):Bool:=decide (1<=s.length)&&decide (s.length<=8)&&s.all (λb=>Zi3 b||ZnM b)&&(match s with
 |b::_=>Zi3 b
 | []=>false)
def ZtH (s:List UInt8) (i:Nat):Prop:=∀(j:Nat) (b:UInt8),j<i->s[j]?=some b->(Zi3 b||ZnM b)=true/\(j=0->Zi3 b=true)
variable {s:List UInt8}
theorem ZvX {i:Nat} {x:UInt8} (h:ZtH s i) (l:s[i]?=some x) (d:(Zi3 x||ZnM x)=true) (f:i=0->Zi3 x=true):ZtH s (i+1):=by
 intro j b a H;by_cases e:j<i
 ·exact h j b e H
 ·have:j=i:=by omega
  subst this;rw[l]at H;injection H with H;subst H
  exact⟨d,f⟩
theorem ZsQ (h:ZtH s s.length):Zbr s=(decide (1<=s.length)&&decide (s.length<=8)):=by
 unfold Zbr;have d:s.all (λb=>Zi3 b||ZnM b)=true:=by
  rw[KD];intro b a;obtain⟨j,H⟩:=UC.1 a;exact(h j b (Ua.1 H).1 H).1
 rw[d];cases s with
 |nil=>rfl
 |cons b r =>
  have:=(h 0 b (by simp) rfl).2 rfl;simp[this]
variable {j:Nat}
theorem Zx9 {b:UInt8} (H:s[j]?=some b) (h:(Zi3 b||ZnM b)=false\/j=0/\Zi3 b=false):Zbr s=false:=by
 unfold Zbr;rcases h with h|⟨rfl,h⟩
 ·have:s.all (λb=>Zi3 b||ZnM b)=false:=by
   rw[List.all_eq_false];exact⟨b,Ud H,by simp[h]⟩
  simp[this]
 ·cases s with
  |nil=>simp at H
  |cons c r=>simp at H;subst H;simp[h]
variable (s:List UInt8)
theorem Zch (q:s.length<=4611686018427387904):Zcv s=some (Zbr s):=by
 unfold Zcv;refine XJ s.length (λk v=>v.1=(k:Int)/\ZtH s k) _ ⟨rfl,λj b c=>by omega⟩ ?_ ?_
 ·rintro k ⟨i,⟨⟩⟩ a ⟨rfl,H⟩
  have l:s[k]?=some s[k]:=Ub a;generalize s[k]=x at l;simp only[Zgb,Zp,l,Bq,show(k:Int)<(s.length:Int)from by omega,Ui,YI (show(-9223372036854775808:Int)<=(k:Int)+1 by omega)];have ok:(Zi3 x||ZnM x)=true->(k=0->Zi3 x=true)->(((k:Int)+1,()):Int×Unit).1=((k+1:Nat):Int)/\ZtH s (k+1):=λd f=>⟨by simp,ZvX H l d f⟩;have bad:((Zi3 x||ZnM x)=false\/k=0/\Zi3 x=false)->(some (Sum.inr false):Option (Int×Unit⊕Bool))=some (Sum.inr (Zbr s)):=λh=>by rw[Zx9 l h]
  simp only[Zi3,ZnM]at ok bad;repeat' split
  all_goals first
   |(left;refine⟨_,rfl,ok ?_ ?_⟩<;>simp<;>omega)
   |(right;refine bad ?_;first|(left;simp;omega)|(right;simp;omega))
 ·rintro⟨i,⟨⟩⟩ ⟨rfl,H⟩
  simp only[Zgb,Uf,Uh];rw[ZsQ H];split
  ·rename_i h
   have d:1<=s.length:=by omega
   have f:decide ((s.length:Int)<=8)=decide (s.length<=8):=by rw[Kz];omega
   simp[d,f]
  ·have d:¬1<=s.length:=by omega
   simp[d]
theorem dropWhile_nil {p:UInt8->Bool}:∀(m:List UInt8),(∀x∈m.dropWhile p,p x=true)->∀x∈m,p x=true
 |[],_=>by simp
 |a::m,h=>by
  by_cases n:p a=true
  ·rw[List.dropWhile_cons_of_pos n]at h
   intro x l;rcases UD.1 l with rfl|l
   ·exact n
   ·exact dropWhile_nil m h x l
  ·rw[List.dropWhile_cons_of_neg n]at h
   exact absurd (h a (by simp)) n
theorem ZmF {p:UInt8->Bool}:∀(m:List UInt8),m.dropWhile p=[]<->∀x∈m,p x=true
 |[]=>by simp
 |a::m=>by
  by_cases n:p a=true
  ·rw[List.dropWhile_cons_of_pos n,ZmF m];simp[n]
  ·rw[List.dropWhile_cons_of_neg n];simp[n]
theorem ZBu (cs:List UInt8):Lib.trimS s cs=[]<->∀b∈s,cs.contains b=true:=by
 unfold Lib.trimS Lib.trimLeftS Lib.trimRightS;rw[ZmF];constructor
 ·intro h b H
  exact dropWhile_nil s.reverse (λx l=>h x (List.mem_reverse.2 l)) b (List.mem_reverse.2 H)
 ·intro h b H
  exact h b (List.mem_reverse.1 ((List.dropWhile_sublist _).subset (List.mem_reverse.1 H)))
def letters:List UInt8:=[97,98,99,100,101,102,103,104,105,106,107,108,109,110,111,112,113,114,115,116,117,118,119,120,121,122]
def ZjU:List UInt8:=letters++[48,49,50,51,52,53,54,55,56,57]
theorem ZDH {p:UInt8->Bool} (h:(List.range 256).all (λn=>p (UInt8.ofNat n))=true) (b:UInt8):p b=true:=by
 rw[KD]at h;have:=h b.toNat (KG.2 b.toNat_lt);simpa using this
theorem Zkv (b:UInt8):ZjU.contains b=(Zi3 b||ZnM b):=by
 have:=ZDH (p:=λb=>ZjU.contains b==(Zi3 b||ZnM b)) (by decide +kernel) b;simpa using this
theorem ZuR:Lib.trimS s ZjU=[]<->s.all (λb=>Zi3 b||ZnM b)=true:=by
 rw[ZBu,KD];simp only[Zkv]
theorem ZsC (b:UInt8):decide (0<=(Lib.indexByte letters b:Int))=Zi3 b:=by
 have:=ZDH (p:=λb=>decide (0<=(Lib.indexByte letters b:Int))==Zi3 b) (by decide +kernel) b;simpa using this
theorem ZgU:ZeT s=some (Zbr s):=by
 unfold ZeT;rw[Zc9,Bq];split
 ·rename_i h
  rw[Jv]at h;rw[Ra];split
  ·rename_i t
   have H:=(ZuR s).1 t;cases s with
   |nil=>simp at h
   |cons b r =>
    have e:atI (b::r) (0:Int)=some b:=rfl;rw[e,Bq];have E:((b.toNat:Int)).toNat.toUInt8=b:=by simp
    rw[E];have d:1<=(b::r).length:=by simp
    have f:(b::r).length<=8:=by omega
    have:=ZsC b;unfold letters at this;rw[this];simp only[Zbr,H,UU d,UU f,KU]
  ·rename_i t
   have H:¬s.all (λb=>Zi3 b||ZnM b)=true:=λe=>t ((ZuR s).2 e);simp only[Zbr,Bool.eq_false_iff.2 H,Bool.and_false,KX]
 ·rename_i h
  rw[Jv]at h;have:¬(1<=s.length/\s.length<=8):=by omega
  rw[eq_comm];congr 1;rw[Bool.eq_false_iff];intro a;simp only[Zbr,Ur,Ul]at a;omega
variable (l:List (List UInt8))
theorem ZoY (s:List UInt8) (q:l.length<=4611686018427387904):∃r,Xr l s=some r/\(0<=r<->s∈l):=by
 unfold Xr;refine Zfz l.length (λk v=>v.1=(k:Int)/\s ∉ l.take k) _ ⟨rfl,by simp⟩ ?_ ?_
 ·rintro k ⟨i,⟨⟩⟩ b ⟨rfl,a⟩
  have H:l[k]?=some l[k]:=Ub b;generalize l[k]=x at H;simp only[XH,Zp,H,Bq,show(k:Int)<(l.length:Int)from by omega,Ui,YI (show(-9223372036854775808:Int)<=(k:Int)+1 by omega)];split
  ·rename_i e;subst e
   exact .inr ⟨_,rfl,λ_=>Ud H,λ_=>by simp⟩
  ·rename_i e
   exact .inl ⟨_,rfl,by simp,by rw[Xf H];simp[a,e]⟩
 ·rintro⟨i,⟨⟩⟩ ⟨rfl,a⟩
  simp only[XH,Uf,Uh];refine⟨_,rfl,λh=>by omega,λh=>absurd h (by simpa using a)⟩
theorem Zmh (s:List UInt8) (q:l.length<=4611686018427387904):QU l s=some (decide (s∈l)):=by
 obtain⟨r,d,f⟩:=ZoY l s q;unfold QU;rw[d,Bq];simp only[f]
def J6 (l:List (List UInt8)) (k:Nat):Prop:=∀(j:Nat) (s:List UInt8),j<k->l[j]?=some s->Zbr s=true/\s ∉ l.take j
theorem ZcU (c:l.length<=4611686018427387904):Zbj l=some (tr (J6 l l.length)):=by
 unfold Zbj;refine XJ l.length (λk v=>v.1=(k:Int)/\J6 l k) _ ⟨rfl,λj s b=>by omega⟩ ?_ ?_
 ·rintro k ⟨i,⟨⟩⟩ a ⟨rfl,H⟩
  have h:l[k]?=some l[k]:=Ub a;generalize l[k]=x at h;simp only[ZeR,Zp,h,Bq,show(k:Int)<(l.length:Int)from by omega,Ui,YI (show(-9223372036854775808:Int)<=(k:Int)+1 by omega),ZgU];split
  ·rename_i f
   rw[Ra,Ra];simp only[Up,Int.toNat_zero,KE,Nat.sub_zero];rw[Zmh _ _ (by simp only[Uk];omega),Bq];split
   ·rename_i R
    right;rw[Yq];intro r;exact(r k x a h).2 (by simpa using R)
   ·rename_i R
    refine .inl ⟨_,rfl,by simp,λj s b q=>?_⟩;by_cases e:j<k
    ·exact H j s e q
    ·have:j=k:=by omega
     subst this;rw[h]at q;injection q with q;subst q
     exact⟨f,by simpa using R⟩
  ·rename_i f
   right;rw[Yq];intro r;exact f (r k x a h).1
 ·rintro⟨i,⟨⟩⟩ ⟨rfl,H⟩
  simp only[ZeR,Uf,Uh];rw[ZY H]
def allIn (l:List Int) (o h:Int):Bool:=l.all (λn=>within n o h)
theorem Zd5 (l:List Int) (o h:Int) (q:l.length<=4611686018427387904:=by omega):Qe l o h=some (allIn l o h):=by
 have d:∃r,YQ l (o,h,())=some r/\(0<=r<->allIn l o h=false):=by
  unfold YQ;refine Zfz l.length (λk v=>v.1=(k:Int)/\allIn (l.take k) o h=true) _ ⟨rfl,rfl⟩ ?_ ?_
  ·rintro k ⟨i,⟨⟩⟩ a ⟨rfl,s⟩
   have H:l[k]?=some l[k]:=Ub a;generalize l[k]=x at H;simp only[Y7,Zgx,Zc9,Zp,H,Bq,show(k:Int)<(l.length:Int)from by omega,Ui,YI (show(-9223372036854775808:Int)<=(k:Int)+1 by omega)];cases c:within x o h
   ·refine .inr ⟨_,rfl,λ_=>?_,λ_=>by simp⟩
    rw[allIn,List.all_eq_false];grind
   ·refine .inl ⟨_,rfl,by simp,?_⟩
    rw[Xf H,allIn,List.all_append];simp only[allIn]at s;simp[s,c]
  ·rintro⟨i,⟨⟩⟩ ⟨rfl,s⟩
   rw[Uq]at s;simp only[Y7,Uf,Uh];grind
 obtain⟨r,d,f⟩:=d;unfold Qe Xi;grind
def Len {α:Type} (l:List α):Prop:=l.length<=4611686018427387904
variable {l:List α}
theorem ZyN (q:Len l) (H:k<=l.length:=by omega):Wq ((k:Int)+1)=((k+1:Nat):Int):=by
 have:l.length<=4611686018427387904:=q;rw[QR];simp
def Jw {α:Type} (p:α->Bool) (l:List α):Int:=match l.findIdx? p with
 |some i=>i
 |none=>-1
variable {p:α->Bool}
theorem Vx:0<=Jw p l<->l.any p=true:=by
 unfold Jw;grind
theorem Q0 (q:Len l) {step:Int×Unit->Option ((Int×Unit)⊕ρ)} {out:Int->ρ}
  (b:∀(k:Nat) (x:α),l[k]?=some x->step ((k:Int),())=some (if p x=true then .inr (out k)else .inl (Wq ((k:Int)+1),())))
  (H:step ((l.length:Int),())=some (.inr (out (-1)))):ZA step (0,())=some (out (Jw p l)):=by
 refine XJ l.length (λk v=>v.1=(k:Int)/\∀x∈l.take k,p x=false) _ ⟨rfl,by simp⟩ ?_ ?_
 ·rintro k ⟨i,⟨⟩⟩ a ⟨h,s⟩
  simp only at h;subst h;have H:l[k]?=some l[k]:=Ub a;rw[b k _ H,ZyN q];split
  ·rename_i g
   right;have:l.findIdx? p=some k:=by
    rw[Kh];refine⟨a,g,λj c=>?_⟩;have:=s l[j] (UC.2 ⟨j,by grind⟩);simp[this]
   unfold Jw;rw[this]
  ·rename_i g
   refine .inl ⟨_,rfl,rfl,?_⟩;rw[Xf H];grind
 ·rintro⟨i,⟨⟩⟩ ⟨h,s⟩
  simp only at h;subst h;rw[Uq]at s;have:l.findIdx? p=none:=List.findIdx?_eq_none_iff.2 s;rw[H];unfold Jw;rw[this]
def V7 {α σ:Type} (f:Nat->α->σ->σ):Nat->List α->σ->σ
 |_,[],s=>s
 |k,x::r,s=>V7 f (k+1) r (f k x s)
theorem ZiF {α σ:Type} (f:Nat->α->σ->σ):∀(l r:List α) (m:Nat) (s:σ),V7 f m (l++r) s=V7 f (m+l.length) r (V7 f m l s)
 |[],r,m,s=>by simp[V7]
 |x::l,r,m,s=>by
  simp only[U3,V7,Um,ZiF f l r];grind
theorem Zgu {σ:Type} {f:Nat->α->σ->σ} (h:l[k]?=some x) (s:σ):V7 f 0 (l.take (k+1)) s=f k x (V7 f 0 (l.take k) s):=by
 have H:=(Ua.1 h).1;rw[Xf h,ZiF];simp only[V7,Us,Uk];grind
variable {R:ρ}
theorem Zgv {σ:Type} (q:Len l) (p:σ->Int->τ) {f:Nat->α->σ->σ} {step:τ->Option (τ⊕ρ)} {s0:σ} (I:Nat->σ->Prop) (m:I 0 s0)
  (b:∀(k:Nat) (x:α) (s:σ),l[k]?=some x->I k s->s=V7 f 0 (l.take k) s0->step (p s (k:Int))=some (.inl (p (f k x s) (Wq ((k:Int)+1))))/\I (k+1) (f k x s))
  (h:∀s,I l.length s->s=V7 f 0 l s0->step (p s (l.length:Int))=some (.inr R)):ZA step (p s0 0)=some R:=by
 refine XJ l.length (λk v=>v=p (V7 f 0 (l.take k) s0) (k:Int)/\I k (V7 f 0 (l.take k) s0)) _ ⟨rfl,m⟩ ?_ ?_
 ·rintro k _ a ⟨rfl,i⟩
  have h:l[k]?=some l[k]:=Ub a;obtain⟨d,H⟩:=b k _ _ h i rfl;rw[d,ZyN q];exact .inl ⟨_,rfl,by rw[Zgu h],by rw[Zgu h];exact H⟩
 grind
theorem ZpK {α β:Type} (g:α->β):∀(l:List α) (m:Nat) (a:List β),V7 (λ_ x s=>s++[g x]) m l a=a++l.map g
 |[],_,_=>by simp[V7]
 |x::l,m,a=>by simp[V7,ZpK g l]
variable {β:Type}
theorem Zw2 (q:Len l) (p:List β->Int->τ) {g:α->β} {step:τ->Option (τ⊕ρ)} {s0:List β}
  (h:∀(k:Nat) (x:α),l[k]?=some x->∀s,s=s0++(l.take k).map g->step (p s (k:Int))=some (.inl (p (s++[g x]) (Wq ((k:Int)+1)))))
  (a:step (p (s0++l.map g) (l.length:Int))=some (.inr R)):ZA step (p s0 0)=some R:=by
 refine Zgv q p (f:=λ_ x s=>s++[g x]) (λ_ _=>True) trivial (λk x s H _ m=>⟨h k x H s (by rw[m,ZpK]),trivial⟩) (λs _ m=>?_);rw[m,ZpK];exact a
noncomputable def sel {ρ:Type} (P:Prop) (a b:ρ):ρ:=match tr P with
 |true=>a
 |false=>b
variable {P:Prop}
theorem Vh (h:P) (a b:ρ):sel P a b=a:=by simp[sel,ZY h]
theorem QF (h:¬P) (a b:ρ):sel P a b=b:=by simp[sel,Yq h]
theorem Zjo (P:Prop):sel P true false=tr P:=by
 by_cases h:P
 ·rw[Vh h,ZY h]
 ·rw[QF h,Yq h]
def Zei {α:Type} (l:List α) (P:Nat->α->Prop):Prop:=∀(k:Nat) (x:α),l[k]?=some x->P k x
variable {bad good:ρ}
theorem V8 (q:Len l) (P:Nat->α->Prop) {step:Int×Unit->Option ((Int×Unit)⊕ρ)}
  (e:∀(k:Nat) (x:α),l[k]?=some x->k<l.length->(∀(j:Nat) (y:α),j<k->l[j]?=some y->P j y)->(P k x->step ((k:Int),())=some (.inl (Wq ((k:Int)+1),())))/\(¬P k x->step ((k:Int),())=some (.inr bad)))
  (b:Zei l P->step ((l.length:Int),())=some (.inr good)):ZA step (0,())=some (sel (Zei l P) good bad):=by
 refine XJ l.length (λk v=>v.1=(k:Int)/\∀(j:Nat) (y:α),j<k->l[j]?=some y->P j y) _ ⟨rfl,λj y g=>by omega⟩ ?_ ?_
 ·rintro k ⟨i,⟨⟩⟩ a ⟨H,s⟩
  simp only at H;subst H;have b:l[k]?=some l[k]:=Ub a;obtain⟨d,f⟩:=e k _ b a s;by_cases p:P k l[k]
  ·rw[d p,ZyN q]
   grind
  ·right
   rw[f p,QF (λh=>p (h k _ b))]
 ·rintro⟨i,⟨⟩⟩ ⟨H,s⟩
  simp only at H;subst H;have c:Zei l P:=λk x a=>s k x (Ua.1 a).1 a;rw[b c,Vh c]
theorem Zw0 (m n:Nat) (H:m<=n) (b:n<=4611686018427387904) (P:Nat->Prop) {step:Int×Unit->Option ((Int×Unit)⊕ρ)}
  (q:∀k:Nat,m<=k->k<n->(∀j,m<=j->j<k->P j)->(P k->step ((k:Int),())=some (.inl (Wq ((k:Int)+1),())))/\(¬P k->step ((k:Int),())=some (.inr bad)))
  (x:(∀j,m<=j->j<n->P j)->step ((n:Int),())=some (.inr good)):ZA step ((m:Int),())=some (sel (∀j,m<=j->j<n->P j) good bad):=by
 refine XJ (n-m) (λk v=>v.1=((m+k:Nat):Int)/\∀j,m<=j->j<m+k->P j) _ ⟨by simp,λj d f=>by omega⟩ ?_ ?_
 ·rintro k ⟨i,⟨⟩⟩ a ⟨l,s⟩
  simp only at l;subst l;obtain⟨d,f⟩:=q (m+k) (by omega) (by omega) s;by_cases p:P (m+k)
  ·rw[d p,QR]
   grind
  ·right
   rw[f p,QF (λh=>p (h (m+k) (by omega) (by omega)))]
 ·rintro⟨i,⟨⟩⟩ ⟨l,s⟩
  simp only at l;subst l;have e:m+(n-m)=n:=by omega
  rw[e]at s ⊢;rw[x s,Vh s]
theorem Zhe {l:List (List UInt8)} {v:List UInt8} (q:Len l):Xr l v=some (Jw (λx=>decide (v=x)) l):=by
 unfold Xr;refine Q0 (out:=λi=>i) q (λk x h=>?_) ?_
 ·have H:=(Ua.1 h).1
  simp only[XH,Zp,h,Bq,show(k:Int)<(l.length:Int)from by omega,Ui,Ul];split<;>rfl
 ·simp only[XH,Uf,Uh]
variable {l:List ZE} {f:Bool×Unit}
theorem VP (q:Len l) (p:ZE->Bool) (g:∀x∈l,ZaC x f.fst=some (p x)):Yh l f=some (Jw p l):=by
 unfold Yh;refine Q0 (out:=λi=>i) q (p:=p) (λk x h=>?_) ?_
 ·have H:=(Ua.1 h).1
  simp only[Yz,Zp,h,Bq,show(k:Int)<(l.length:Int)from by omega,Ui,g x (Ud h)];split<;>rfl
 ·simp only[Yz,Uf,Uh]
theorem Vp (q:Len l) (p:ZE->Bool) (g:∀x∈l,ZaC x f.fst=some (p x)):Z9 l f=some (l.any p):=by
 unfold Z9;rw[VP q p g,Bq];congr 1;rw[KA,Ul,Vx]
theorem Je {l:List XT} {f:Unit} (q:Len l) (p:XT->Bool) (g:∀x∈l,ZfI x=some (p x)):Yp l f=some (Jw p l):=by
 unfold Yp;refine Q0 (out:=λi=>i) q (p:=p) (λk x h=>?_) ?_
 ·have H:=(Ua.1 h).1
  simp only[YM,Zp,h,Bq,show(k:Int)<(l.length:Int)from by omega,Ui,g x (Ud h)];split<;>rfl
 ·simp only[YM,Uf,Uh]
variable {l:List ZK} {f:ZK×Unit}
theorem V4 (q:Len l) (p:ZK->Bool) (g:∀x∈l,VX x f.fst=some (p x)):Yj l f=some (Jw p l):=by
 unfold Yj;refine Q0 (out:=λi=>i) q (p:=p) (λk x h=>?_) ?_
 ·have H:=(Ua.1 h).1
  simp only[YE,Zp,h,Bq,show(k:Int)<(l.length:Int)from by omega,Ui,g x (Ud h)];split<;>rfl
 ·simp only[YE,Uf,Uh]
theorem Vr (q:Len l) (p:ZK->Bool) (g:∀x∈l,VX x f.fst=some (p x)):Yb l f=some (l.any p):=by
 unfold Yb;rw[V4 q p g,Bq];congr 1;rw[KA,Ul,Vx]
variable {f:Int×Unit}
theorem Jz (q:Len l) (p:ZK->Bool) (g:∀x∈l,ZeI x f.fst=some (p x)):Yt l f=some (Jw p l):=by
 unfold Yt;refine Q0 (out:=λi=>i) q (p:=p) (λk x h=>?_) ?_
 ·have H:=(Ua.1 h).1
  simp only[YR,Zp,h,Bq,show(k:Int)<(l.length:Int)from by omega,Ui,g x (Ud h)];split<;>rfl
 ·simp only[YR,Uf,Uh]
theorem V9 (q:Len l) (p:ZK->Bool) (g:∀x∈l,ZeI x f.fst=some (p x)):Yl l f=some (l.any p):=by
 unfold Yl;rw[Jz q p g,Bq];congr 1;rw[KA,Ul,Vx]
variable {l:List Int} {f:Zb×Unit}
theorem Ja (q:Len l) (p:Int->Bool) (g:∀x∈l,Q5 x f.fst=some (p x)):Yn l f=some (Jw p l):=by
 unfold Yn;refine Q0 (out:=λi=>i) q (p:=p) (λk x h=>?_) ?_
 ·have H:=(Ua.1 h).1
  simp only[YH,Zp,h,Bq,show(k:Int)<(l.length:Int)from by omega,Ui,g x (Ud h)];split<;>rfl
 ·simp only[YH,Uf,Uh]
theorem Vu (q:Len l) (p:Int->Bool) (g:∀x∈l,Q5 x f.fst=some (p x)):Ye l f=some (l.any p):=by
 unfold Ye;rw[Ja q p g,Bq];congr 1;rw[KA,Ul,Vx]
variable {f:Unit}
theorem Zbt (q:Len l) (p:Int->Bool) (g:∀x∈l,ZeK x=some (p x)):Xa l f=some (Jw p l):=by
 unfold Xa;refine Q0 (out:=λi=>i) q (p:=p) (λk x h=>?_) ?_
 ·have H:=(Ua.1 h).1
  simp only[Xq,Zp,h,Bq,show(k:Int)<(l.length:Int)from by omega,Ui,g x (Ud h)];split<;>rfl
 ·simp only[Xq,Uf,Uh]
theorem ZaP (q:Len l) (p:Int->Bool) (g:∀x∈l,ZeK x=some (p x)):YX l f=some (l.any p):=by
 unfold YX;rw[Zbt q p g,Bq];congr 1;rw[KA,Ul,Vx]
theorem Vv {l:List Zj} {f:Int×Unit} (q:Len l) (p:Zj->Bool) (g:∀x∈l,Zhm x f.fst=some (p x)):Yf l f=some (Jw p l):=by
 unfold Yf;refine Q0 (out:=λi=>i) q (p:=p) (λk x h=>?_) ?_
 ·have H:=(Ua.1 h).1
  simp only[Yw,Zp,h,Bq,show(k:Int)<(l.length:Int)from by omega,Ui,g x (Ud h)];split<;>rfl
 ·simp only[Yw,Uf,Uh]
theorem QH {l:List Zd} {f:List UInt8×Unit} (q:Len l) (p:Zd->Bool) (g:∀x∈l,ZdC x f.fst=some (p x)):Z0 l f=some (Jw p l):=by
 unfold Z0;refine Q0 (out:=λi=>i) q (p:=p) (λk x h=>?_) ?_
 ·have H:=(Ua.1 h).1
  simp only[Yd,Zp,h,Bq,show(k:Int)<(l.length:Int)from by omega,Ui,g x (Ud h)];split<;>rfl
 ·simp only[Yd,Uf,Uh]
theorem ZhJ {v:Int} (q:Len l):XM l v=some (Jw (λx=>decide (v=x)) l):=by
 unfold XM;refine Q0 (out:=λi=>i) q (λk x h=>?_) ?_
 ·have H:=(Ua.1 h).1
  simp only[YA,Zp,h,Bq,show(k:Int)<(l.length:Int)from by omega,Ui,Ul];split<;>rfl
 ·simp only[YA,Uf,Uh]
theorem ZgG {v:Int} (q:Len l):Ym l v=some (decide (v∈l)):=by
 unfold Ym;rw[ZhJ q,Bq];congr 1;rw[KA,Ul,Ul,Vx,KO];simp
variable {f:List Bool×Yc×Unit}
theorem JO (q:Len l) (p:Int->Bool) (g:∀x∈l,VY x f.fst f.snd.fst=some (p x)):YB l f=some (Jw p l):=by
 unfold YB;refine Q0 (out:=λi=>i) q (p:=p) (λk x h=>?_) ?_
 ·have H:=(Ua.1 h).1
  simp only[Y0,Zp,h,Bq,show(k:Int)<(l.length:Int)from by omega,Ui,g x (Ud h)];split<;>rfl
 ·simp only[Y0,Uf,Uh]
theorem Jr (q:Len l) (p:Int->Bool) (g:∀x∈l,VY x f.fst f.snd.fst=some (p x)):ZU l f=some (l.any p):=by
 unfold ZU;rw[JO q p g,Bq];congr 1;rw[KA,Ul,Vx]
theorem Va {l:List ZL} {f:Int×Int×Unit} (q:Len l) (p:ZL->Bool) (g:∀x∈l,ZaY x f.fst f.snd.fst=some (p x)):Z8 l f=some (Jw p l):=by
 unfold Z8;refine Q0 (out:=λi=>i) q (p:=p) (λk x h=>?_) ?_
 ·have H:=(Ua.1 h).1
  simp only[Yo,Zp,h,Bq,show(k:Int)<(l.length:Int)from by omega,Ui,g x (Ud h)];split<;>rfl
 ·simp only[Yo,Uf,Uh]
theorem Zgr {a:Bool} (h:a=true<->b=true):a=b:=by grind
variable {Q:Prop}
theorem Zap (h:P<->Q):tr P=tr Q:=by rw[propext h]
def Inc (l:List Int):Prop:=∀(k:Nat) (x y:Int),l[k]?=some x->l[k+1]?=some y->x<y
def Zja (l:List Int) (o h:Int):Prop:=∀x∈l,o<=x/\x<=h
variable (l:List Int) (o h:Int)
theorem Zmu:allIn l o h=true<->Zja l o h:=by
 unfold allIn Zja;rw[KD];simp only[Jv]
theorem VZ:XE l=some (l.length:Int):=rfl
theorem Zhv (q:Len l):Jj l=some (tr (Inc l)):=by
 unfold Jj;have a:l.length<=4611686018427387904:=q;by_cases m:l.length=0
 ·have:l=[]:=UI m
  subst this;rw[Y1 (r:=true) (by rfl)];have m:Inc []:=λk x y h=>by simp at h
  rw[ZY m]
 have:=Zw0 (ρ:=Bool) 1 l.length (by omega) a (λk=>∀x y,l[k-1]?=some x->l[k]?=some y->x<y) (step:=λv=>VG l v.1) (bad:=false) (good:=true)
  (λk d f _=>by
   obtain⟨x,H⟩:∃x,l[k-1]?=some x:=⟨_,Ub (by omega)⟩;obtain⟨y,i⟩:∃y,l[k]?=some y:=⟨_,Ub f⟩;have E:Wq ((k:Int)-1)=((k-1:Nat):Int):=by rw[QR];omega
   simp only[VG,show (k:Int)<(l.length:Int) from by omega,Ui,E,Zp,H,i,Bq];grind)
  (λ_=>by simp only[VG,Uf,Uh])
 refine(show ZA (λv=>VG l v.1) ((1:Int),())=_ from this).trans ?_;rw[Zjo];congr 1;refine Zap ⟨λh k x y H i=>?_,λh j d f x y H i=>?_⟩
 ·exact h (k+1) (by omega) (Ua.1 i).1 x y (by simpa using H) i
 ·exact h (j-1) x y H (by grind)
def Zht (l:List Int):Prop:=1<=l.length/\l.length<=4/\Zja l 0 100000/\Inc l
theorem ZlP (q:Len l):Zic l=some (tr (Zht l)):=by
 unfold Zic;rw[VZ,Bq,Zc9,Bq,Zd5 l _ _ q,Bq,Zhv l q,Bq];have e:tr (Zht l)=(within (l.length:Int) 1 4&&allIn l 0 100000&&tr (Inc l)):=by
  refine Zrm ?_;simp only[Ur,Jv,Zmu,YS,Zht];grind
 grind
theorem Zk3 (q:Len l):Zhf l=some (tr (Zht l)):=by
 unfold Zhf;have e:l.length<=4611686018427387904:=q;rw[V8 q (λk x=>(0<=x/\x<=100000)/\(0<k->∀ y,l[k-1]?=some y->y<x)) (bad:=false) (good:=decide (1<=l.length/\l.length<=4))
  (λk x H b _=>by
   simp only[Zf7,show(k:Int)<(l.length:Int)from by omega,Ui,Zp,H,Bq,Zf6];by_cases c:within x 0 100000=true
   ·rw[Uc c]
    by_cases m:0<k
    ·obtain⟨y,i⟩:∃y,l[k-1]?=some y:=⟨_,Ub (by omega)⟩
     have E:Wq ((k:Int)-1)=((k-1:Nat):Int):=by rw[QR];omega
     rw[QP,E,Zp,i,Bq];refine⟨λh=>?_,λh=>?_⟩
     ·grind
     ·rw[Uc]
      rcases Int.lt_or_le y x with a|a
      ·exact absurd ⟨(Jv _ _ _).1 c,λ_ z T=>by grind⟩ h
      ·exact a
    ·rw[QQ]
     exact⟨λ_=>rfl,λh=>absurd ⟨(Jv _ _ _).1 c,λa=>absurd a m⟩ h⟩
   ·rw[Ue c]
    exact ⟨λh=>absurd ((Jv _ _ _).2 h.1) c,λ_=>rfl⟩)
  (λ_=>by
   simp only[Zf7,Uf,Uh];by_cases d:1<=l.length
   ·rw[QP]
    congr 2;grind
   grind)]
 congr 1;refine Zgr ?_;rw[YS];by_cases h:Zei l (λk x=>(0<=x/\x<=100000)/\(0<k->∀y,l[k-1]?=some y->y<x))
 ·rw[Vh h,Ul]
  constructor
  ·rintro⟨d,f⟩
   refine⟨d,f,λx H=>?_,λk x y H i=>?_⟩
   ·obtain⟨k,b⟩:=UC.1 H
    exact(h k x b).1
   ·exact(h (k+1) y i).2 (by omega) x (by simpa using H)
  ·intro r
   exact⟨r.1,r.2.1⟩
 ·rw[QF h]
  constructor
  ·intro r;cases r
  ·intro r
   refine absurd ?_ h;intro k x b;refine⟨r.2.2.1 x (Ud b),λm y i=>?_⟩;exact r.2.2.2 (k-1) y x i (by grind)
def Zah (t:ZE):Prop:=Zht (GS t)/\Zht (GA t)/\(Gz t).length=(GS t).length*(GA t).length/\Zja (Gz t) (-1000000) 1000000
def ZF2 (t:ZE):Prop:=Len (GS t)/\Len (GA t)/\Len (Gz t)
theorem Zht.mul {a b:List Int} (n:Zht a) (h:Zht b):a.length*b.length<=16:=by
 have d:=n.2.1;have f:=h.2.1
 calc a.length*b.length<=4*4:=Ku d f
  _=16:=rfl
theorem Zw6 {a b:List Int} (n:Zht a) (h:Zht b):Wq ((a.length:Int)*(b.length:Int))=((a.length*b.length:Nat):Int):=by
 have:=n.mul h;have e:(a.length:Int)*(b.length:Int)=((a.length*b.length:Nat):Int):=by simp
 rw[e,QR]
variable (t:ZE)
theorem ZpR (h:ZF2 t):ZiH t=some (tr (Zah t)):=by
 unfold ZiH;rw[ZlP _ h.1,Bq];by_cases d:Zht (GS t)
 ·rw[Uc (ZY d),ZlP _ h.2.1,Bq]
  by_cases f:Zht (GA t)
  ·rw[Uc (ZY f),Zw6 d f]
   by_cases g:(Gz t).length=(GS t).length*(GA t).length
   ·rw[Uc (by rw[g]),Zd5 _ _ _ h.2.2,Bq]
    congr 1;refine Zgr ?_;rw[Zmu,YS];exact⟨λi=>⟨d,f,g,i⟩,λi=>i.2.2.2⟩
   ·rw[QQ,Yq (λr=>g r.2.2.1)]
  ·rw[Ue (by rw[Yq f];simp),Yq (λr=>f r.2.1)]
 ·rw[Ue (by rw[Yq d];simp),Yq (λr=>d r.1)]
theorem ZqB (h:ZF2 t):ZiP t=some (tr (Zah t)):=by
 unfold ZiP;rw[Zk3 _ h.1,Bq];by_cases d:Zht (GS t)
 ·rw[Uc (ZY d),Zk3 _ h.2.1,Bq]
  by_cases f:Zht (GA t)
  ·rw[Uc (ZY f),Zw6 d f]
   by_cases g:(Gz t).length=(GS t).length*(GA t).length
   ·rw[Uc (by rw[g]),V8 h.2.2 (λk x=>-1000000<=x/\x<=1000000) (bad:=false) (good:=true)
     (λk x l H _=>by
      simp only[Zf3,show (k:Int)<((Gz t).length:Int) from by omega,Ui,Zp,l,Bq,Zf6,Jv];grind)
     (λ_=>by simp only[Zf3,Uf,Uh]),Zjo]
    congr 1;refine Zap ⟨λi=>⟨d,f,g,λx l=>?_⟩,λi k x l=>i.2.2.2 x (Ud l)⟩;obtain⟨k,H⟩:=UC.1 l;exact i k x H
   ·rw[QQ,Yq (λr=>g r.2.2.1)]
  ·rw[Ue (by rw[Yq f];simp),Yq (λr=>f r.2.1)]
 ·rw[Ue (by rw[Yq d];simp),Yq (λr=>d r.1)]
variable (x:Int)
theorem Ztf (l:List Int) (q:Len (x::l)):Zam (x::l)=some (l.foldl min x):=by
 unfold Zam;have a:(x::l).length<=4611686018427387904:=q;have E:¬(((x::l).length:Int)<1):=by grind
 have e:atI (x::l) (0:Int)=some x:=rfl;rw[Ue E,e,Bq];refine XJ l.length (λk v=>v.1=(l.take k).foldl min x/\v.2.1=(((k+1:Nat)):Int)) _ ⟨by simp,rfl⟩ ?_ ?_
 ·rintro k ⟨m,i,⟨⟩⟩ b ⟨R,h⟩
  simp only at R h;subst R;subst h;have c:l[k]?=some l[k]:=Ub b;have H:(x::l)[k+1]?=some l[k]:=by simp
  simp only[J9,Zp,H,Bq,show((k+1:Nat):Int)<((x::l).length:Int)from by simp;omega,Ui];refine .inl ⟨_,rfl,?_,?_⟩
  ·rw[Xf c,List.foldl_append];rfl
  ·simp only[Um]at a
   show Wq (((k+1:Nat):Int)+1)=((k+1+1:Nat):Int);rw[QR];omega
 ·rintro⟨m,i,⟨⟩⟩ ⟨R,h⟩
  simp only at R h;subst R;subst h;rw[Uq];simp only[J9,show ¬(((l.length+1:Nat):Int)<((x::l).length:Int))from by simp,Uh]
theorem ZmM (l:List Int):l.foldl min x<0<->x<0\/∃y∈l,y<0:=by
 induction l generalizing x with
 |nil=>simp
 |cons y r i =>
  simp only[List.foldl_cons,i,UD,exists_eq_or_imp];grind
def Zeh (l:List ZE) (pos:Bool):Prop:=l.length=2/\∀t∈l,Zah t/\(pos=true->∀v∈Gz t,0<=v)
theorem Zah.some {t:ZE} (h:Zah t):∃x l,Gz t=x::l:=by
 have d:=h.1.1;have f:=h.2.1.1;have g:=h.2.2.1;have:1*1<=(GS t).length*(GA t).length:=Ku d f;cases a:Gz t with
 |nil=>grind
 |cons x l=>exact⟨x,l,rfl⟩
variable (pos:Bool)
theorem Zlx (h:ZF2 t):ZaC t pos=some (! tr (Zah t/\(pos=true->∀v∈Gz t,0<=v))):=by
 unfold ZaC;rw[ZpR _ h,Bq];by_cases d:Zah t
 ·rw[Uc (ZY d)]
  cases pos
  ·rw[Ue (by simp),ZY ⟨d,λe=>by cases e⟩];rfl
  ·obtain⟨x,l,a⟩:=d.some
   have n:=h.2.2;rw[Uc rfl,a];rw[a]at n;rw[Ztf x l n,Bq];congr 1;refine Zgr ?_;rw[Ul,ZmM,UT,<-Bool.not_eq_true,YS];constructor
   ·rintro(r|⟨y,i,r⟩) ⟨_,H⟩
    ·have:=H rfl x (by simp);omega
    grind
   grind
 ·rw[Ue (by rw[Yq d];simp),Yq (λr=>d r.1)];rfl
def ZEa (l:List ZE):Prop:=Len l/\∀t∈l,ZF2 t
theorem Zgw (l:List ZE) (pos:Bool) (h:ZEa l):Zc8 l pos=some (tr (Zeh l pos)):=by
 unfold Zc8;by_cases f:l.length=2
 ·rw[QP,Vp h.1 (λt=>! tr (Zah t/\(pos=true->∀v∈Gz t,0<=v))) (λt H=>Zlx t pos (h.2 t H)),Bq]
  congr 1;refine Zgr ?_;rw[UT,List.any_eq_false,YS];simp only[UT,Bool.not_eq_false,YS,Bool.not_eq_true];exact⟨λr=>⟨f,r⟩,λr=>r.2⟩
 ·rw[QQ,Yq (λr=>f r.1)]
variable {l:List α}
theorem ZjW (p:Nat->τ) (P:Nat->α->Prop) {step:τ->Option (τ⊕ρ)}
  (q:∀(k:Nat) (x:α),l[k]?=some x->k<l.length->(∀(j:Nat) (y:α),j<k->l[j]?=some y->P j y)->(P k x->step (p k)=some (.inl (p (k+1))))/\(¬P k x->step (p k)=some (.inr bad)))
  (a:Zei l P->step (p l.length)=some (.inr good)):ZA step (p 0)=some (sel (Zei l P) good bad):=by
 refine XJ l.length (λk v=>v=p k/\∀(j:Nat) (y:α),j<k->l[j]?=some y->P j y) _ ⟨rfl,λj y e=>by omega⟩ ?_ ?_
 ·rintro k v H ⟨rfl,s⟩
  have a:l[k]?=some l[k]:=Ub H;obtain⟨d,f⟩:=q k _ a H s;by_cases b:P k l[k]
  ·grind
  ·right
   rw[f b,QF (λh=>b (h k _ a))]
 ·rintro v ⟨rfl,s⟩
  have c:Zei l P:=λk x H=>s k x (Ua.1 H).1 H;rw[a c,Vh c]
theorem Yv (p:Nat->τ) {step:τ->Option (τ⊕ρ)}
  (q:∀(k:Nat) (x:α),l[k]?=some x->k<l.length->step (p k)=some (.inl (p (k+1)))) (H:step (p l.length)=some (.inr good)):ZA step (p 0)=some good:=by
 have:=ZjW (l:=l) p (λ_ _=>True) (step:=step) (bad:=good) (good:=good) (λk x d f _=>⟨λ_=>q k x d f,λh=>absurd trivial h⟩) (λ_=>H);rw[this,Vh (show Zei l (λ_ _=>True)from λ_ _ _=>trivial)]
theorem Zp9 (f:n<=4611686018427387904) (P:Nat->Prop) {step:Int×Unit->Option ((Int×Unit)⊕ρ)}
  (q:∀k:Nat,k<n->(P k->step ((k:Int),())=some (.inl (Wq ((k:Int)+1),())))/\(¬P k->step ((k:Int),())=some (.inr bad)))
  (l:(∀j,j<n->P j)->step ((n:Int),())=some (.inr good)):ZA step ((0:Int),())=some (sel (∀j,j<n->P j) good bad):=by
 have:=Zw0 (ρ:=ρ) 0 n (by omega) f P (step:=step) (bad:=bad) (good:=good) (λk _ h _=>q k h) (λh=>l (λj b=>h j (by omega) b));grind
variable {t:Ty} {l:List t.den}
theorem QK (h:sm (.sl t) l):Len l:=by
 have d:(l.length:Int)<=1048576:=h.1;show l.length<=4611686018427387904;omega
variable {s:List UInt8}
theorem ZjA (h:sm .str s):s.length<=4611686018427387904:=by
 have d:(s.length:Int)<=1048576:=h;omega
variable {x:t.den}
theorem ZuG (h:sm (.sl t) l) (H:x∈l):sm t x:=h.2 x H
theorem JJ (h:sm (.sl t) l) (H:l[k]?=some x):sm t x:=h.2 x (Ud H)
theorem Zv (h:sm (.sl t) l):l.length<=1048576:=by
 have d:(l.length:Int)<=1048576:=h.1;omega
variable {t:ZE}
theorem Zys (h:sm Zaw t):ZF2 t:=⟨QK (t:=.int .i64) h.1,QK (t:=.int .i64) h.2.1,QK (t:=.int .i64) h.2.2.1⟩
theorem Zkf {l:List ZE} (h:sm (.sl Zaw) l):ZEa l:=⟨QK h,λt r=>Zys (ZuG h r)⟩
theorem Zmj (t:ZE) (h:ZF2 t):∃r,ZeO t=some r/\(Zah t->r.2=0/\(r.1.1<0<->∃v∈Gz t,v<0))/\(¬Zah t->r.2=1):=by
 unfold ZeO;rw[ZqB _ h,Bq];by_cases d:Zah t
 ·rw[Uc (ZY d)]
  obtain⟨x,l,a⟩:=d.some;have b:(x::l).length<=4611686018427387904:=by rw[<-a];exact h.2.2
  have e:atI (Gz t) (0:Int)=some x:=by rw[a];rfl
  rw[e,Bq];have:=Yv (l:=l) (ρ:=ZC×Int) (λk=>((((k+1:Nat)):Int),(l.take k).foldl min x,(l.take k).foldl max x,())) (step:=λv=>Za0 t v.1 v.2.1 v.2.2.1) (good:=((l.foldl min x,l.foldl max x,()),0))
   (λk y i c=>by
    have H:(x::l)[k+1]?=some y:=by simpa using i
    simp only[Um] at b;simp only[Za0,a,Zp,H,Bq,show ((k+1:Nat):Int)<((x::l).length:Int) from by simp;omega,Ui];rw[Xf i,List.foldl_append,List.foldl_append,QR];rfl)
   (by
    simp only[Za0,a,Uq,show ¬(((l.length+1:Nat):Int)<((x::l).length:Int)) from by simp,Uh])
  refine⟨_,this,λ_=>⟨rfl,?_⟩,λf=>absurd d f⟩;rw[a];refine(ZmM x l).trans ?_;simp
 ·rw[Ue (by rw[Yq d];simp)]
  grind
theorem ZgM (l:List ZE) (pos:Bool) (h:ZEa l):Xj l pos=some (tr (Zeh l pos)):=by
 unfold Xj;by_cases f:l.length=2
 ·rw[QP,V8 h.1 (λk t=>Zah t/\(pos=true->∀ v∈Gz t,0<=v)) (bad:=false) (good:=true)
   (λk t x a _=>by
    obtain ⟨r,F,c,d⟩:=Zmj t (h.2 t (Ud x));simp only[Zeo,show (k:Int)<2 from by omega,Ui,Zp,x,Bq,F];by_cases b:Zah t;all_goals grind)
   (λ_=>by simp only[Zeo,f];rfl),Zjo]
  congr 1;refine Zap ⟨λH=>⟨f,λt b=>?_⟩,λH k t a=>H.2 t (Ud a)⟩;obtain⟨k,a⟩:=UC.1 b;exact H k t a
 ·rw[QQ,Yq (λH=>f H.1)]
def Zhd (l:List XT):List (List UInt8):=l.map GN
def ZoU (l:List XT):Nat:=l.countP (λp=>Gn p)
def ZtG (n k:Nat) (p:XT):Prop:=(0<=G2 p/\G2 p<=500)/\(k+1=n->G9 p=2/\G2 p=0/\Gn p=false)/\(k+1<n->G9 p=1)
def ZlC (l:List XT):Prop:=2<=l.length/\l.length<=5/\J6 (Zhd l) l.length/\Zei l (ZtG l.length)
theorem ZpT (l:List XT) (h:sm (.sl Znm) l):ZiI l=some (tr (ZlC l)):=by
 unfold ZiI;have q:=Zv h;have:=ZjW (l:=l) (ρ:=Bool) (λk=>((Zhd l).take k,(k:Int),())) (ZtG l.length) (step:=λv=>Zbk l v.1 v.2.1) (bad:=false) (good:=tr (2<=l.length/\l.length<=5/\J6 (Zhd l) l.length))
  (λk p x a _=>by
   have f:(Zhd l)[k]?=some (GN p):=by simp[Zhd,x]
   have e:Wq ((l.length:Int)-1)=((l.length-1:Nat):Int):=by rw[QR];omega
   simp only[Zbk,show(k:Int)<(l.length:Int)from by omega,Ui,Zp,x,Bq,e];rw[Zk (by grind),Xf f,QR];unfold ZtG;by_cases t:(k:Int)=((l.length-1:Nat):Int)
   ·grind
   ·rw[Ue t,Zc9]
    have H:k+1<l.length:=by omega
    simp only[Bq,Jv];grind)
  (λc=>by
   have E:(Zhd l).take l.length=Zhd l:=by rw[show l.length=(Zhd l).length by simp[Zhd],Uq]
   simp only[Zbk,Uf,Uh,E,Zc9,Bq,show ZbW l=some (l.length:Int)from rfl];have n:(Zhd l).length=l.length:=by simp[Zhd]
   by_cases w:within (l.length:Int) 2 5=true
   ·rw[Uc w,ZcU _ (by rw[n];omega),Bq,n]
    rw[Jv]at w;grind
   ·rw[Ue w,Yq]
    intro r;exact w ((Jv _ _ _).2 (by omega)))
 refine(show ZA (λv=>Zbk l v.1 v.2.1) (([]:List (List UInt8)),(0:Int),())=_ from this).trans ?_;congr 1;refine Zgr ?_;rw[YS];by_cases c:Zei l (ZtG l.length)
 ·rw[Vh c,YS]
  exact⟨λr=>⟨r.1,r.2.1,r.2.2,c⟩,λr=>⟨r.1,r.2.1,r.2.2.1⟩⟩
 ·rw[QF c]
  exact⟨λr=>(by cases r),λr=>absurd r.2.2.2 c⟩
variable {n:Nat}
theorem ZlF (h:n<=1048576:=by omega) (d:1<=n:=by omega):Wq ((n:Int)-1)=((n-1:Nat):Int):=by rw[QR];omega
theorem Y3 (h:n<=1048576:=by omega):Wq ((n:Int)+1)=((n+1:Nat):Int):=by rw[QR];omega
variable {l:List XT}
theorem ZlS:s ∉ (Zhd l).take k<->∀(j:Nat) (q:XT),j<k->l[j]?=some q->GN q≠s:=by
 constructor
 ·intro h j q b a e
  refine h (UC.2 ⟨j,?_⟩);rw[UB,Uc b];simp[Zhd,a,e]
 ·intro h R
  obtain⟨j,b⟩:=UC.1 R;rw[UB]at b;split at b
  ·rename_i H
   simp only[Zhd,UL,Km]at b;obtain⟨q,a,e⟩:=b;exact h j q H a e
  ·cases b
variable (c:Zo)
theorem ZqD (h:sm (.sl Znm) (Gb c)):ZiR c=some (sel (ZlC (Gb c)) ((ZoU (Gb c):Int),true) ((0:Int),false)):=by
 unfold ZiR;have P:=Zv h;by_cases A:((Gb c).length:Int)<2
 ·rw[Uc A,QF (λr=>by have:=r.1;omega)]
 by_cases F:(5:Int)<((Gb c).length:Int)
 ·rw[Ue A,Uc F,QF (λr=>by have:=r.2.1;omega)]
 rw[Ue A,Ue F];have M:Wq (((Gb c).length:Int)-1)=(((Gb c).length-1:Nat):Int):=ZlF P;have:=ZjW (l:=Gb c) (ρ:=Int×Bool) (λk=>((((Gb c).take k).countP (λp=>Gn p):Int),(k:Int),()))
  (λk p=>(Zbr (GN p)=true/\∀(j:Nat) (q:XT),j<k->(Gb c)[j]?=some q->GN q≠GN p)/\ZtG (Gb c).length k p) (step:=λv=>Zbz c v.1 v.2.1) (bad:=((0:Int),false)) (good:=((ZoU (Gb c):Int),true))
  (λk p D L _=>by
   have K:((Gb c).take k).countP (λp=>Gn p)<=5:=by
    have N:=List.countP_le_length (p:=λp=>Gn p) (l:=(Gb c).take k);rw[Uk]at N;omega
   have m:((Gb c).take (k+1)).countP (λp=>Gn p)=((Gb c).take k).countP (λp=>Gn p)+if Gn p=true then 1 else 0:=by
    rw[Xf D,Kp];simp[List.countP_cons]
   have z:(GN p).length<=4611686018427387904:=ZjA (JJ h D).1;have rest:∀(v:Int),J2 c v (k:Int) p (k:Int)=sel (Zbr (GN p)=true/\ZtG (Gb c).length k p) (some (Sum.inr (Sum.inl (if Gn p=true then Wq (v+1)else v,((k+1:Nat):Int),())))) (some (Sum.inr (Sum.inr (0,false)))):=by
    intro v;simp only[J2,Uf,Uh,Zch _ z,Zf6,Bq,M,Y3 (show k<=1048576 by omega),Jv];unfold ZtG;by_cases f:Zbr (GN p)=true
    ·by_cases G:0<=G2 p/\G2 p<=500
     ·by_cases t:k+1=(Gb c).length
      ·have E:(k:Int)=(((Gb c).length-1:Nat):Int):=by omega
       have x:¬((k:Int)<(((Gb c).length-1:Nat):Int)):=by omega
       have y:¬(k+1<(Gb c).length):=by omega
       rw[Uc f,Uc G,Uc E];by_cases a:G9 p=2
       ·by_cases b:G2 p=0
        ·by_cases d:Gn p=true
         ·rw[Uc a,Uc b,Uc d,QF]
          rintro⟨_,_,H,_⟩;have:=(H t).2.2;rw[d]at this;cases this
         ·rw[Uc a,Uc b,Ue d,Ue x,Ue d,Vh ⟨f,G,λ_=>⟨a,b,by simpa using d⟩,λH=>absurd H y⟩]
          simp[d]
        ·rw[Uc a,Ue b,QF]
         rintro⟨_,_,H,_⟩;exact b (H t).2.1
       ·rw[Ue a,QF]
        rintro⟨_,_,H,_⟩;exact a (H t).1
      ·have E:¬(k:Int)=(((Gb c).length-1:Nat):Int):=by omega
       have x:(k:Int)<(((Gb c).length-1:Nat):Int):=by omega
       have y:k+1<(Gb c).length:=by omega
       rw[Uc f,Uc G,Ue E,Uc x];by_cases a:G9 p=1
       ·rw[Uc a,Vh ⟨f,G,λH=>absurd H t,λ_=>a⟩]
        by_cases d:Gn p=true
        ·rw[Uc d,Uc d]
        ·rw[Ue d,Ue d]
       ·rw[Ue a,QF]
        rintro⟨_,_,_,H⟩;exact a (H y)
     ·rw[Uc f,Ue G,QF (λr=>G r.2.1)]
    ·rw[Ue f,QF (λr=>f r.1)]
   have i:∀(v:Int) (good:(Int×Int×Unit)⊕(Int×Bool)),((∀(j:Nat) (q:XT),j<k->(Gb c)[j]?=some q->GN q≠GN p)->J2 c v (k:Int) p (k:Int)=some (.inr good))->
     ZA (λv'=>J2 c v (k:Int) p v'.1) ((0:Int),())=some (sel (∀j,j<k->∀q,(Gb c)[j]?=some q->GN q≠GN p) good (.inr (0,false))):=by
    intro v good O;refine Zp9 k (by omega) (λj=>∀q,(Gb c)[j]?=some q->GN q≠GN p) (λj o=>?_) (λr=>O (λj q o g=>r j o q g));obtain⟨q,g⟩:∃q,(Gb c)[j]?=some q:=⟨_,Ub (by omega)⟩;simp only[J2,show(j:Int)<(k:Int)from by omega,Ui,Zp,g,Bq];refine⟨λr=>by rw[Ue (r q rfl)],λr=>?_⟩;rw[Uc];apply US;intro C;exact r (λQ n=>by injection n with n;subst n;exact C)
   simp only[Zbz,show(k:Int)<((Gb c).length:Int)from by omega,Ui,Zp,D,Bq];constructor
   ·rintro⟨⟨a,b⟩,d⟩
    rw[i _ (.inl (((((Gb c).take (k+1)).countP (λp=>Gn p):Nat):Int),((k+1:Nat):Int),())) (λ_=>by
     rw[rest,Vh ⟨a,d⟩,m];by_cases w:Gn p=true
     ·rw[Uc w,Uc w,Y3]
     ·rw[Ue w,Ue w];rfl),Vh (λj o q g=>b j q o g)]
   ·intro r
    rw[i _ (.inr (0,false)) (λf=>by
     rw[rest,QF (λH=>r ⟨⟨H.1,f⟩,H.2⟩)])]
    by_cases I:∀j,j<k->∀q,(Gb c)[j]?=some q->GN q≠GN p
    ·rw[Vh I]
    ·rw[QF I])
  (λ_=>by simp only[Zbz,Uf,Uh,Uq];rfl)
 refine(show ZA (λv=>Zbz c v.1 v.2.1) ((0:Int),(0:Int),())=_ from this).trans ?_;congr 1;have e:Zei (Gb c) (λk p=>(Zbr (GN p)=true/\∀(j:Nat) (q:XT),j<k->(Gb c)[j]?=some q->GN q≠GN p)/\ZtG (Gb c).length k p)<->ZlC (Gb c):=by
  constructor
  ·intro B
   refine⟨by omega,by omega,λj s o J=>?_,λk p u=>(B k p u).2⟩;simp only[Zhd,UL,Km]at J;obtain⟨q,g,rfl⟩:=J;exact⟨(B j q g).1.1,ZlS.2 (B j q g).1.2⟩
  ·intro r k p u
   have L:=(Ua.1 u).1;have f:=r.2.2.1 k (GN p) L (by simp[Zhd,u]);exact⟨⟨f.1,ZlS.1 f.2⟩,r.2.2.2 k p u⟩
 rw[propext e]
def Zsh (l:List XT) (i:Int):Bool:=match l[i.toNat]? with
 |some p=>Gn p
 |none=>false
def Znn (c:Zo) (a:ZK):Prop :=
  (0<=Gs a/\Gs a<=((Gb c).length:Int)-2)/\(0<=Gw a/\Gw a<=((Gb c).length:Int)-1)/\
  ((Gf a=1/\Zsh (Gb c) (Gs a)=false/\Gw a=((Gb c).length:Int)-1/\(1<=GH a/\GH a<=3)/\Zeh (GJ a) true/\Zeh (GQ a) true)\/
   ((Gf a=2\/Gf a=3)/\Zsh (Gb c) (Gs a)=true/\Gw a=((Gb c).length:Int)-1/\GH a=0/\Zeh (GJ a) true/\Zeh (GQ a) true)\/
   ((Gf a=4\/Gf a=5)/\Zsh (Gb c) (Gs a)=true/\Gw a<((Gb c).length:Int)-1/\Zsh (Gb c) (Gw a)=false/\GH a=0/\Zeh (GJ a) false/\(GQ a).length=0))
theorem Znn.kind {c:Zo} {a:ZK} (h:Znn c a):1<=Gf a/\Gf a<=5:=by
 rcases h.2.2 with h|h|h
 all_goals grind
variable {m:Option Bool}
theorem ZGs (R:m=some (tr Q)):(if tr P=true then m else some false)=some (tr (P/\Q)):=by
 by_cases h:P
 ·rw[Uc (ZY h),R];grind
 ·rw[Ue (by rw[Yq h];simp),Yq (λq=>h q.1)]
theorem YP {_:Decidable P} (R:P->m=some (tr Q)):(if P then m else some false)=some (tr (P/\Q)):=by
 by_cases h:P
 ·grind
 ·rw[Ue h,Yq (λq=>h q.1)]
theorem ZjF {_:Decidable P} (R:¬P->m=some (tr Q)):(if P then some false else m)=some (tr (¬P/\Q)):=by
 by_cases h:P
 ·rw[Uc h,Yq (λq=>q.1 h)]
 grind
theorem Zdl (h:b=true<->P):some b=some (tr P):=by rw[Zrm h]
theorem ZaH (h:m=some (tr P)) (q:P<->Q):m=some (tr Q):=by rw[h,propext q]
theorem Zoa (h:¬Q):(some false:Option Bool)=some (tr Q):=by rw[Yq h]
theorem Za6 (h:m=some (tr P)):(m.bind λb=>some b)=some (tr P):=by rw[h];rfl
theorem XA {M:Option Bool} (h:m=some (tr P)) (f:P->M=some (tr Q)):(m.bind λb=>if b=true then M else some false)=some (tr (P/\Q)):=by
 rw[h,Bq];by_cases g:P
 ·rw[Uc (ZY g),f g];grind
 ·rw[Ue (by rw[Yq g];simp),Yq (λq=>g q.1)]
theorem Jy (n a b:Int):Z4 n a b=some (tr (a<=n/\n<=b)):=by rw[Zf6];exact Zdl (Jv _ _ _)
theorem JN (n a b:Int):YC n a b=some (tr (a<=n/\n<=b)):=by rw[Zc9];exact Zdl (Jv _ _ _)
theorem ZAM (m:0<=i) (d:i<l.length:=by omega):∃p,atI l i=some p/\Zsh l i=Gn p:=by
 obtain⟨p,f,g⟩:=Zrw m d;exact⟨p,f,by simp[Zsh,g]⟩
variable (a:ZK)
theorem Zrh (n:sm (.sl Znm) (Gb c)) (N:sm (.sl Zaw) (GJ a)) (w:sm (.sl Zaw) (GQ a)) (u:2<=(Gb c).length):Zj8 c a=some (tr (Znn c a)):=by
 unfold Zj8;have v:=Zv n;have E:Wq (((Gb c).length:Int)-1)=((Gb c).length:Int)-1:=QR;have j:Wq (((Gb c).length:Int)-1-1)=((Gb c).length:Int)-2:=by rw[QR];omega
 rw[E,j];refine ZaH (XA (Jy _ _ _) (λm=>XA (Jy _ _ _) (λz=>?_))) (Q:=Znn c a) (P:=(0<=Gs a/\Gs a<=((Gb c).length:Int)-2)/\(0<=Gw a/\Gw a<=((Gb c).length:Int)-1)/\Znn c a) ⟨λr=>r.2.2,λr=>⟨r.1,r.2.1,r⟩⟩;obtain⟨p,d,H⟩:=ZAM (l:=Gb c) m.1;rw[d,Bq];have F:=Zkf N;have g:=Zkf w;have t:∀b,(Xj (GJ a) b).bind (λx=>if x=true then(Xj (GQ a) b).bind (λy=>some y)else some false)=some (tr (Zeh (GJ a) b/\Zeh (GQ a) b)):=λb=>XA (ZgM _ _ F) (λ_=>Za6 (ZgM _ _ g));have T:(Xj (GJ a) false).bind (λx=>if x=true then some (Decidable.decide (((GQ a).length:Int)=(0:Int)))else some false)=some (tr (Zeh (GJ a) false/\(GQ a).length=0)):=XA (ZgM _ _ F) (λ_=>Zdl (by grind));unfold Znn;rw[H];by_cases k:Gf a=1
 ·simp only[k,Ui]
  refine ZaH (ZjF (λi=>YP (λh=>XA (Jy _ _ _) (λ_=>t true)))) ?_;grind
 by_cases K:Gf a=2
 ·simp only[K,Ui,Int.reduceEq,Uh]
  refine ZaH (YP (λi=>YP (λh=>YP (λ_=>t true)))) ?_;grind
 by_cases R:Gf a=3
 ·simp only[R,Ui,Int.reduceEq,Uh]
  refine ZaH (YP (λi=>YP (λh=>YP (λ_=>t true)))) ?_;grind
 have C:(if Gn p=true then(if Gw a<((Gb c).length:Int)-1 then(atI (Gb c) (Gw a)).bind (λX=>if Gn X=true then some false else if GH a=0 then(Xj (GJ a) false).bind (λx=>if x=true then some (Decidable.decide (((GQ a).length:Int)=(0:Int)))else some false)else some false)else some false)else some false) =
   some (tr (Gn p=true/\Gw a<((Gb c).length:Int)-1/\Zsh (Gb c) (Gw a)=false/\GH a=0/\Zeh (GJ a) false/\(GQ a).length=0)):=by
  refine YP (λ_=>YP (λh=>?_));obtain⟨q,e,f⟩:=ZAM (l:=Gb c) z.1;rw[e,Bq,f];refine ZaH (ZjF (λ_=>YP (λ_=>T))) ?_;grind
 by_cases o:Gf a=4
 ·grind
 by_cases s:Gf a=5
 ·grind
 ·simp only[k,K,R,o,s,Uh]
  refine Zoa ?_;grind
def Zl2 (l:List XT):Int:=Jw (λp=>Gn p) l
theorem ZmP (h:sm (.sl Znm) (Gb c)):ZfH c=some (Zl2 (Gb c)):=by
 unfold ZfH;rw[Je (QK h) (λp=>Gn p) (λp _=>rfl),Bq];rfl
theorem ZeQ (h:sm (.sl Znm) (Gb c)):ZcT c=some (((Gb c).length:Int)-1):=by
 have q:=Zv h;show some (Wq (((Gb c).length:Int)-1))=_;rw[QR]
theorem Zhu (i:Int) (h:sm (.sl Znm) (Gb c)):Zb2 c i=some (tr (0<=i/\i<=((Gb c).length:Int)-2)):=by
 have q:=Zv h;unfold Zb2;rw[ZeQ c h,Bq,QR];refine ZaH (Za6 (JN _ _ _)) ?_;omega
def ZBL (c:Zo) (a:ZK):Prop :=
 ((Gf a=4\/Gf a=5)/\GH a=0/\(GQ a).length=0/\Zeh (GJ a) false/\Gs a=Zl2 (Gb c)/\0<=Gs a/\(0<=Gw a/\Gw a<=((Gb c).length:Int)-2)/\Gw a≠Gs a)\/
 (¬(Gf a=4\/Gf a=5)/\Zeh (GJ a) true/\Zeh (GQ a) true/\Gw a=((Gb c).length:Int)-1/\(0<=Gs a/\Gs a<=((Gb c).length:Int)-2)/\
  ((Gf a=1/\Zsh (Gb c) (Gs a)=false/\(1<=GH a/\GH a<=3))\/((Gf a=2\/Gf a=3)/\Zsh (Gb c) (Gs a)=true/\GH a=0)))
theorem ZpU (k:Int):ZiJ k=some (tr (k=4\/k=5)):=by
 unfold ZiJ;split
 ·rename_i h;rw[ZY (.inl h)]
 ·rename_i h
  exact Zdl (by grind)
theorem Zsx (g:sm (.sl Znm) (Gb c)) (N:sm (.sl Zaw) (GJ a)) (w:sm (.sl Zaw) (GQ a)):ZfJ c a=some (tr (ZBL c a)):=by
 unfold ZfJ;have F:=Zkf N;have h:=Zkf w;rw[ZpU,Bq];by_cases k:Gf a=4\/Gf a=5
 ·rw[Uc (ZY k)]
  refine ZaH (YP (λ_=>YP (λ_=>XA (Zgw _ _ F) (λ_=>?_)))) (P:=GH a=0/\((GQ a).length:Int)=0/\Zeh (GJ a) false/\(Gs a=Zl2 (Gb c)/\0<=Gs a/\(0<=Gw a/\Gw a<=((Gb c).length:Int)-2)/\Gw a≠Gs a)) ?_
  ·rw[ZmP c g,Bq]
   refine YP (λ_=>YP (λ_=>XA (Zhu c _ g) (λ_=>Zdl ?_)));grind
  ·unfold ZBL
   grind
 ·rw[Ue (by rw[Yq k];simp)]
  refine ZaH (XA (Zgw _ _ F) (λ_=>XA (Zgw _ _ h) (λ_=>?_))) (P:=Zeh (GJ a) true/\Zeh (GQ a) true/\(Gw a=((Gb c).length:Int)-1/\(0<=Gs a/\Gs a<=((Gb c).length:Int)-2)/\
   ((Gf a=1/\Zsh (Gb c) (Gs a)=false/\(1<=GH a/\GH a<=3))\/((Gf a=2\/Gf a=3)/\Zsh (Gb c) (Gs a)=true/\GH a=0)))) ?_
  ·rw[ZeQ c g,Bq]
   refine YP (λ_=>XA (Zhu c _ g) (λm=>?_));obtain⟨p,d,H⟩:=ZAM (l:=Gb c) m.1;rw[d,H];simp only[Bq];by_cases K:Gf a=1
   ·simp only[K,Ui]
    refine ZaH (ZjF (λ_=>Za6 (JN _ _ _))) ?_;grind
   by_cases f:Gf a=2
   ·simp only[f,Ui,Int.reduceEq,Uh]
    refine ZaH (YP (λ_=>Zdl (Kf))) ?_;grind
   by_cases R:Gf a=3
   ·simp only[R,Ui,Int.reduceEq,Uh]
    refine ZaH (YP (λ_=>Zdl (Kf))) ?_;grind
   ·simp only[K,f,R,Uh]
    refine Zoa ?_;grind
  ·unfold ZBL
   grind
def Zii (o a:ZK):Prop:=Gf o=Gf a/\Gs o=Gs a/\Gw o=Gw a
def Apart (l:List ZK) (k:Nat) (a:ZK):Prop:=∀(j:Nat) (o:ZK),j<k->l[j]?=some o->¬Zii o a
structure Zrp (c:Zo):Prop where
 name:(GV c).length<=4611686018427387904
 pins:sm (.sl Znm) (Gb c)
 arcs:sm (.sl Zof) (Gp c)
 truth:sm (.sl (.int .i64)) (GD c)
theorem Zxu {c:Zo} (h:sm Zcq c):Zrp c:=⟨ZjA h.1,h.2.2.1,h.2.2.2.1,h.2.2.2.2.1⟩
theorem ZDi {a:ZK} (h:sm Zof a):sm (.sl Zaw) (GJ a)/\sm (.sl Zaw) (GQ a):=⟨h.2.2.2.2.1,h.2.2.2.2.2.1⟩
theorem ZmQ (o a:ZK):VX o a=some (tr (Zii o a)):=by
 unfold VX Zii;exact YP (λ_=>YP (λ_=>Zdl Kf))
theorem ZpS (h:Zrp c):Zd2 c=some (tr ((Gp c).length<=8/\Zei (Gp c) (λk a=>ZBL c a/\Apart (Gp c) k a))):=by
 unfold Zd2;have q:=Zv h.arcs;rw[V8 (QK h.arcs) (λk a=>ZBL c a/\Apart (Gp c) k a) (bad:=false) (good:=decide ((Gp c).length<=8))
  (λk a l i _=>by
   obtain⟨f,g⟩:=ZDi (JJ h.arcs l);simp only[ZcA,show(k:Int)<((Gp c).length:Int)from by omega,Ui,Zp,l,Bq,Zsx c a h.pins f g];by_cases H:ZBL c a
   ·rw[Uc (ZY H),Ra,Ra]
    simp only[Up,Int.toNat_zero,KE,Nat.sub_zero];rw[Vr (by show((Gp c).take k).length<=4611686018427387904;grind) (λo=>tr (Zii o a)) (λo _=>ZmQ o a),Bq];have e:((Gp c).take k).any (λo=>tr (Zii o a))=true<->¬Apart (Gp c) k a:=by
     rw[KO];constructor
     ·rintro⟨o,x,q⟩ G
      obtain⟨j,b⟩:=UC.1 x;rw[UB]at b;split at b
      ·rename_i d;exact G j o d b ((YS _).1 q)
      ·cases b
     ·intro n
      apply US;intro m;refine n (λj o b x q=>m ⟨o,?_,ZY q⟩);exact UC.2 ⟨j,by grind⟩
    grind
   ·rw[Ue (by rw[Yq H];simp)]
    grind)
  (λ_=>by
   simp only[ZcA,Uf,Uh];congr 2;grind)]
 congr 1;refine Zgr ?_;rw[YS];by_cases H:Zei (Gp c) (λk a=>ZBL c a/\Apart (Gp c) k a)
 ·rw[Vh H,Ul];grind
 ·rw[QF H];grind
def ZtD (c:Zo) (k:Int):Prop:=∃a∈Gp c,Gf a=k
theorem Zgz (k:Int) (h:Zrp c):Zai c k=some (tr (ZtD c k)):=by
 unfold Zai;rw[V9 (QK h.arcs) (λa=>decide (Gf a=k)) (λa _=>rfl),Bq];refine Zdl ?_;rw[KO];simp only[Ul,ZtD]
def Ziw (c:Zo):Prop :=
 (GI c=1/\ZoU (Gb c)=0/\(GD c).length=2^((Gb c).length-1)/\Zja (GD c) 0 1)\/
 (GI c=2/\ZoU (Gb c)=1/\(GD c).length=0/\¬ZtD c 1/\(ZtD c 2<->¬ZtD c 3))\/
 (GI c=3/\ZoU (Gb c)=1/\(GD c).length=0/\ZtD c 1/\ZtD c 2/\¬ZtD c 3)
theorem ZAQ (h:n<=4):(2:Nat)^n<=16:=by
 calc (2:Nat)^n<=2^4:=Nat.pow_le_pow_right (by omega) h
  _=16:=rfl
variable {m:Nat}
theorem ZGq (h:m<=4:=by omega):Wq ((1:Int)*(2:Int)^min m (IntKind.bits IntKind.i64))=((2^m:Nat):Int):=by
 have b:min m (IntKind.bits IntKind.i64)=m:=Nat.min_eq_left (by show m<=64;omega);have e:(1:Int)*(2:Int)^m=((2^m:Nat):Int):=by simp
 rw[b,e];have H:=ZAQ h;clear b e;generalize 2^m=g at H ⊢;rw[QR]
theorem ZoR (h:Zrp c) (g:ZlC (Gb c)):Zdm c=some (tr (Ziw c)):=by
 unfold Zdm;have f:=g.1;have n:=g.2.1;refine (show ZA (λv=>Vm c v.1 v.2.1) ((0:Int),(0:Int),())=_ from Yv (l:=Gb c) (ρ:=Bool) (λk=>((((Gb c).take k).countP (λp=>Gn p):Int),(k:Int),())) (step:=λv=>Vm c v.1 v.2.1)
  (λk p x o=>by
   have K:((Gb c).take k).countP (λp=>Gn p)<=5:=by
    have d:=List.countP_le_length (p:=λp=>Gn p) (l:=(Gb c).take k);grind
   have m:((Gb c).take (k+1)).countP (λp=>Gn p)=((Gb c).take k).countP (λp=>Gn p)+if Gn p=true then 1 else 0:=by
    rw[Xf x,Kp];grind
   simp only[Vm,show(k:Int)<((Gb c).length:Int)from by omega,Ui,Zp,x,Bq,m];by_cases q:Gn p=true
   ·rw[Uc q,Uc q,Y3,Y3]
   ·rw[Ue q,Ue q,Y3];rfl)
  ?_)
 have t:=ZeQ c h.pins;simp only[Vm,Uf,Uh,Uq,t,Bq,show(((Gb c).length:Int)-1).toNat=(Gb c).length-1 from by omega,ZGq (show(Gb c).length-1<=4 by omega)];have E:((Gb c).countP (λp=>Gn p):Int)=0<->ZoU (Gb c)=0:=by unfold ZoU;omega
 have e:((Gb c).countP (λp=>Gn p):Int)=1<->ZoU (Gb c)=1:=by unfold ZoU;omega
 unfold Ziw;by_cases i:GI c=1
 ·simp only[i,Ui]
  by_cases q:ZoU (Gb c)=0
  ·rw[Uc (E.2 q),Ra]
   by_cases H:(GD c).length=2^((Gb c).length-1)
   ·rw[Uc (by rw[H]),Zd5 _ _ _ (QK h.truth),Bq]
    congr 2;refine(Zrm ?_).symm;rw[Zmu];grind
   ·rw[QQ,Yq (by grind)]
  ·rw[Ue (λr=>q (E.1 r)),Yq (by grind)]
 by_cases j:GI c=2
 ·simp only[j,Ui,Int.reduceEq,Uh]
  by_cases q:ZoU (Gb c)=1
  ·rw[Uc (e.2 q)]
   by_cases H:(GD c).length=0
   ·rw[QP,Zgz c 1 h,Bq]
    by_cases d:ZtD c 1
    ·rw[Uc (ZY d),Yq (by grind)]
    ·rw[Ue (by rw[Yq d];simp),Zgz c 2 h,Zgz c 3 h]
     simp only[Bq];congr 2;refine(Zrm ?_).symm;by_cases a:ZtD c 2<;>by_cases b:ZtD c 3<;>simp only[ZY,Yq,a,b,not_false_eq_true]<;>grind
   ·rw[QQ,Yq (by grind)]
  ·rw[Ue (λr=>q (e.1 r)),Yq (by grind)]
 by_cases R:GI c=3
 ·simp only[R,Ui,Int.reduceEq,Uh]
  by_cases q:ZoU (Gb c)=1
  ·rw[Uc (e.2 q)]
   by_cases H:(GD c).length=0
   ·rw[QP,Zgz c 1 h,Bq]
    by_cases d:ZtD c 1
    ·rw[Uc (ZY d),Zgz c 2 h,Bq]
     by_cases f:ZtD c 2
     ·rw[Uc (ZY f),Zgz c 3 h,Bq]
      congr 2;refine(Zrm ?_).symm;rw[UT,<-Bool.not_eq_true,YS];grind
     ·rw[Ue (by rw[Yq f];simp),Yq (by grind)]
    ·rw[Ue (by rw[Yq d];simp),Yq (by grind)]
   ·rw[QQ,Yq (by grind)]
  ·rw[Ue (λr=>q (e.1 r)),Yq (by grind)]
 ·simp only[i,j,R,Uh]
  rw[Yq (by grind)]
def ZGl (c:Zo):Prop:=Zbr (GV c)=true/\ZlC (Gb c)/\((Gp c).length<=8/\Zei (Gp c) (λk a=>ZBL c a/\Apart (Gp c) k a))/\(0<=Ha c/\Ha c<=100000)/\(0<=Hb c/\Hb c<=100000)/\Ziw c
def ZlA (c:Zo):Prop:=Zbr (GV c)=true/\ZlC (Gb c)/\((Gp c).length<=8/\Zei (Gp c) (λk a=>Znn c a/\Apart (Gp c) k a))/\(0<=Ha c/\Ha c<=100000)/\(0<=Hb c/\Hb c<=100000)/\Ziw c
theorem ZCU {i:Nat} {p q:XT} (Z:i<j) (g:l[i]?=some p) (b:l[j]?=some q) (c:Gn p=true) (C:Gn q=true):2<=ZoU l:=by
 unfold ZoU;have e:l.countP (λp=>Gn p)=(l.take j).countP (λp=>Gn p)+(l.drop j).countP (λp=>Gn p):=by rw[<-Kp,KH]
 have d:0<(l.take j).countP (λp=>Gn p):=KN.2 ⟨p,UC.2 ⟨i,by grind⟩,c⟩;have f:0<(l.drop j).countP (λp=>Gn p):=KN.2 ⟨q,UC.2 ⟨0,by grind⟩,C⟩;omega
theorem Zrx (h:ZoU l<=1) (m:0<=i):Zsh l i=true<->i=Zl2 l:=by
 unfold Zl2 Jw Zsh;constructor
 ·intro q
  split at q
  ·rename_i p d
   split
   ·rename_i j b
    obtain⟨s,H,a⟩:=Kh.1 b;have g:l[j]?=some l[j]:=Ub s;rcases KK i.toNat j with t|y|t
    ·grind
    ·omega
    ·have:=ZCU t g d H q;omega
   grind
  ·cases q
 ·intro c
  split at c
  ·rename_i j b
   obtain⟨s,H,a⟩:=Kh.1 b;grind
  ·omega
theorem ZxK (h:ZlC l):Zsh l ((l.length:Int)-1)=false:=by
 have f:=h.1;have g:l[l.length-1]?=some l[l.length-1]:=Ub (by omega);have:=((h.2.2.2 _ _ g).2.1 (by omega)).2.2;unfold Zsh;rw[show((l.length:Int)-1).toNat=l.length-1 by omega,g];exact this
theorem ZyX {c:Zo} (g:ZlC (Gb c)) (H:ZoU (Gb c)<=1) (a:ZK):ZBL c a<->Znn c a:=by
 have f:=g.1;have m:0<=Gs a->(Zsh (Gb c) (Gs a)=true<->Gs a=Zl2 (Gb c)):=λh=>Zrx H h;have z:0<=Gw a->(Zsh (Gb c) (Gw a)=true<->Gw a=Zl2 (Gb c)):=λh=>Zrx H h;have t:=ZxK g;have r:∀i,Zsh (Gb c) i=true->i<((Gb c).length:Int):=by
  intro i l;unfold Zsh at l;grind
 unfold ZBL Znn;grind
theorem Ziw.ZoU {c:Zo} (h:Ziw c):ZoU (Gb c)<=1:=by
 rcases h with h|h|h
 all_goals grind
theorem ZB1:ZGl c<->ZlA c:=by
 unfold ZGl ZlA;constructor
 ·rintro⟨a,b,⟨c1,d⟩,e,f,g⟩
  exact⟨a,b,⟨c1,λk x l=>⟨(ZyX b g.ZoU x).1 (d k x l).1,(d k x l).2⟩⟩,e,f,g⟩
 ·rintro⟨a,b,⟨c1,d⟩,e,f,g⟩
  exact⟨a,b,⟨c1,λk x l=>⟨(ZyX b g.ZoU x).2 (d k x l).1,(d k x l).2⟩⟩,e,f,g⟩
theorem Zq5 (h:sm Zcq c):ZjO c=some (tr (ZlA c)):=by
 have q:=Zxu h;unfold ZjO;refine ZaH (XA (by rw[ZgU];exact Zdl Iff.rfl) (λ_=>XA (ZpT _ q.pins) (λg=>XA (ZpS c q) (λ_=>XA (JN _ _ _) (λ_=>XA (JN _ _ _) (λ_=>Za6 (ZoR c q g))))))) ?_;exact(ZB1 c)
def Zho (l:List ZK):List Int:=(List.range 6).map (λ(j:Nat)=>((l.countP (λa=>decide (Gf a=(j:Int))):Nat):Int))
theorem ZeU (l:List ZK) (h:j<6):(Zho l)[j]?=some ((l.countP (λa=>decide (Gf a=(j:Int))):Nat):Int):=by
 simp[Zho,Kv h]
theorem Zo1 (h:Zrp c) (H:∀a∈Gp c,1<=Gf a/\Gf a<=5):ZhN c=some (Zho (Gp c)):=by
 unfold ZhN;have q:=Zv h.arcs;have m:List.replicate (Int.toNat (6:Int)) (0:Int)=Zho ((Gp c).take 0):=by simp[Zho];decide
 rw[m];refine Yv (l:=Gp c) (ρ:=List Int) (λk=>((k:Int),Zho ((Gp c).take k),())) (step:=λv=>ZcM c v.1 v.2.1)
  (λk a x t=>?_) (by simp only[ZcM,Uf,Uh,Uq])
 obtain⟨e,s⟩:=H a (Ud x);have n:Gf a=((Gf a).toNat:Int):=by omega
 have K:∀j:Nat,((Gp c).take k).countP (λa=>decide (Gf a=(j:Int)))<=1048576:=by
  intro j;have d:=List.countP_le_length (p:=λa=>decide (Gf a=(j:Int))) (l:=(Gp c).take k);grind
 simp only[ZcM,show(k:Int)<((Gp c).length:Int)from by omega,Ui,Zp,x,Bq];rw[Yr (by omega) (ZeU _ (show(Gf a).toNat<6 by omega)),Bq,Y3 (K _),Y3];congr 3;rw[Prod.mk.injEq];refine⟨?_,rfl⟩;apply Uy;intro j;by_cases b:(Gf a).toNat=j
 ·subst b
  rw[UG (by simp[Zho];omega),ZeU _ (by omega),Xf x,Kp];grind
 ·rw[UF b]
  by_cases I:j<6
  ·rw[ZeU _ I,ZeU _ I,Xf x,Kp]
   grind
  ·rw[UA (by simp[Zho];omega),UA (by simp[Zho];omega)]
theorem Zpx (j:Nat):0<(Gp c).countP (λa=>decide (Gf a=(j:Int)))<->ZtD c j:=by
 rw[KN];simp only[Ul,ZtD]
theorem Zob (h:Zrp c) (g:ZlC (Gb c)) (e:GI c=1) :
  ZA (λv=>Zd8 c ((ZoU (Gb c):Int),true) v.1) ((0:Int),())=some (.inr (tr (Ziw c))):=by
 have f:=g.1;have j:=g.2.1;have s:=Zv h.truth;have E:Wq (((Gb c).length:Int)-1)=((Gb c).length:Int)-1:=QR;have i:IntKind.u64.wrap (((Gb c).length:Int)-1)=((Gb c).length:Int)-1:=IntWalk.u64_in _ (by omega);rw[V8 (QK h.truth) (λk x=>0<=x/\x<=1) (bad:=.inr false) (good:=.inr (tr (ZoU (Gb c)=0/\(GD c).length=2 ^ ((Gb c).length-1))))
  (λk x l H _=>by
   simp only[Zd8,show (k:Int)<((GD c).length:Int) from by omega,Ui,Zp,l,Bq,Zf6,Jv];grind)
  (λ_=>by
   simp only[Zd8,Uf,Uh,E,i];by_cases q:ZoU (Gb c)=0
   ·rw[QP,Ra,show(((Gb c).length:Int)-1).toNat=(Gb c).length-1 by omega,ZGq]
    congr 2;congr 1;refine(Zrm ?_).symm;grind
   ·rw[QQ,Yq (λr=>q r.1)])]
 congr 1;by_cases a:Zei (GD c) (λk x=>0<=x/\x<=1)
 ·rw[Vh a]
  congr 1;refine Zap ?_;have b:Zja (GD c) 0 1:=λx l=>by
   obtain⟨k,H⟩:=UC.1 l;exact a k x H
  unfold Ziw;grind
 ·rw[QF a,Yq]
  intro r;rcases r with r|r|r
  ·exact a (λk x H=>r.2.2.2 x (Ud H))
  all_goals grind
theorem Zrf (V:sm Zcq c):Zj6 c=some (tr (ZlA c)):=by
 have h:=Zxu V;have Q:=Zv h.arcs;unfold Zj6;rw[ZqD c h.pins,Bq];by_cases C:¬ZlC (Gb c)
 ·rw[QF C,Yq (λr=>C r.2.1)];rfl
 have g:=Classical.not_not.1 C;rw[Vh g];simp only[Ui];refine ZaH (XA (P:=Zbr (GV c)=true) (by rw[Zch _ h.name];exact Zdl Iff.rfl) (λO=>ZjF (λJ=>XA (Jy _ _ _) (λM=>XA (Jy _ _ _) (λL=>?_))))) (P:=Zbr (GV c)=true/\¬((8:Int)<((Gp c).length:Int))/\(0<=Ha c/\Ha c<=100000)/\(0<=Hb c/\Hb c<=100000)/\(Zei (Gp c) (λk a=>Znn c a/\Apart (Gp c) k a)/\Ziw c)) ?_
 ·rw[V8 (QK h.arcs) (λk a=>Znn c a/\Apart (Gp c) k a) (bad:=false) (good:=tr (Ziw c))
   (λk a q m _=>by
    obtain⟨B,D⟩:=ZDi (JJ h.arcs q);simp only[ZgJ,show(k:Int)<((Gp c).length:Int)from by omega,Ui,Zp,q,Bq,Zrh c a h.pins B D g.1];have i:ZA (λv=>Zd7 c (k:Int) a v.1) ((0:Int),())=some (sel (∀j,j<k->∀o,(Gp c)[j]?=some o->¬Zii o a) (.inl (Wq ((k:Int)+1),())) (.inr false)):=by
     refine Zp9 k (by omega) (λj=>∀o,(Gp c)[j]?=some o->¬Zii o a) (λj f=>?_) (λ_=>by simp only[Zd7,Uf,Uh]);obtain⟨o,d⟩:∃o,(Gp c)[j]?=some o:=⟨_,Ub (by omega)⟩;simp only[Zd7,show(j:Int)<(k:Int)from by omega,Ui,Zp,d,Bq];have e:(∀o',some o=some o'->¬Zii o' a)<->¬Zii o a:=⟨λr=>r o rfl,λr o' Y=>by grind⟩;rw[e];unfold Zii;grind
    have p:Apart (Gp c) k a<->(∀j,j<k->∀o,(Gp c)[j]?=some o->¬Zii o a):=⟨λr j f o d=>r j o f d,λr j o f d=>r j f o d⟩;by_cases H:Znn c a
    ·rw[Uc (ZY H),i]
     constructor
     ·intro r;rw[Vh (p.1 r.2)]
     ·intro r;rw[QF (λA=>r ⟨H,p.2 A⟩)]
    ·rw[Ue (by rw[Yq H];simp)]
     grind)
   (λH=>by
    have s:=Zo1 c h (λa F=>by
     obtain ⟨k,m⟩:=UC.1 F;exact (H k a m).1.kind)
    have G:atI (Zho (Gp c)) (1:Int)=some (((Gp c).countP (λa=>decide (Gf a=((1:Nat):Int))):Nat):Int):=Yr (by omega) (ZeU _ (by omega));have y:atI (Zho (Gp c)) (2:Int)=some (((Gp c).countP (λa=>decide (Gf a=((2:Nat):Int))):Nat):Int):=Yr (by omega) (ZeU _ (by omega));have z:atI (Zho (Gp c)) (3:Int)=some (((Gp c).countP (λa=>decide (Gf a=((3:Nat):Int))):Nat):Int):=Yr (by omega) (ZeU _ (by omega));have c1:=Zpx c 1;have c2:=Zpx c 2;have R:=Zpx c 3;simp only[ZgJ,Uf,Uh,s,Bq,G,y,z];generalize (Gp c).countP (λa=>decide (Gf a=((1:Nat):Int)))=n1 at c1 ⊢;generalize (Gp c).countP (λa=>decide (Gf a=((2:Nat):Int)))=n at c2 ⊢;generalize (Gp c).countP (λa=>decide (Gf a=((3:Nat):Int)))=N at R ⊢;by_cases K:GI c=1
    ·rw[Uc K]
     exact Zob c h g K
    rw[Ue K];have l:∀(b:Bool),(b=true<->Ziw c)->(some (.inr b):Option ((Int×Unit)⊕Bool))=some (.inr (tr (Ziw c))):=λb I=>by rw[Zrm I]
    have t:ZtD c 1<->0<n1:=c1.symm;have u:ZtD c 2<->0<n:=c2.symm;have w:ZtD c 3<->0<N:=R.symm;have E:Ziw c<->(GI c=2/\ZoU (Gb c)=1/\(GD c).length=0/\¬0<n1/\(0<n<->¬0<N))\/(GI c=3/\ZoU (Gb c)=1/\(GD c).length=0/\0<n1/\0<n/\¬0<N):=by
     unfold Ziw
     simp_all
    grind)]
  congr 1;by_cases H:Zei (Gp c) (λk a=>Znn c a/\Apart (Gp c) k a)
  ·rw[Vh H];grind
  ·rw[QF H,Yq (λx=>H x.1)]
 ·unfold ZlA
  grind
variable {l:List α}
theorem Zw4 {s:α}:s ∉ l.take k<->∀(j:Nat) (q:α),j<k->l[j]?=some q->q≠s:=by
 constructor
 ·intro h j q b H e
  refine h (UC.2 ⟨j,?_⟩);grind
 ·intro h R
  obtain⟨j,b⟩:=UC.1 R;grind
theorem Zul (f:α->List UInt8) (l:List α):J6 (l.map f) l.length<->Zei l (λk x=>Zbr (f x)=true/\∀(j:Nat) (q:α),j<k->l[j]?=some q->f q≠f x):=by
 constructor
 ·intro h k x H
  have g:=(Ua.1 H).1;obtain⟨d,a⟩:=h k (f x) g (by simp[H]);refine⟨d,λj q b c=>Zw4.1 a j (f q) b (by simp[c])⟩
 ·intro h j s b e
  simp only[UL,Km]at e;obtain⟨x,H,rfl⟩:=e;obtain⟨d,a⟩:=h j x H;refine⟨d,Zw4.2 (λi q m c=>?_)⟩;grind
def Zjj (l:List Zo):List (List UInt8):=l.map GV
def ZtF (a:Zu):Prop:=(Gd a).length<=8/\(∀c∈Gd a,ZlA c)/\J6 (Zjj (Gd a)) (Gd a).length
theorem ZoZ {a:Zu} (h:sm X9 a):sm (.sl Zcq) (Gd a):=h.1
theorem ZeF {P:α->Prop}:Zei l (λ_ x=>P x)<->∀x∈l,P x:=by
 constructor
 ·intro h x a
  obtain⟨k,H⟩:=UC.1 a;exact h k x H
 ·intro h k x H
  grind
theorem Zlq:sel P (tr Q) false=tr (P/\Q):=by
 by_cases h:P
 ·rw[Vh h];grind
 ·rw[QF h,Yq (λq=>h q.1)]
variable (a:Zu)
theorem ZnH (h:sm X9 a):ZgT a=some (tr (ZtF a)):=by
 have H:=ZoZ h;have s:=Zv H;unfold ZgT;have:=ZjW (l:=Gd a) (ρ:=Bool) (λk=>((Zjj (Gd a)).take k,(k:Int),())) (λ_ c=>ZlA c) (step:=λv=>Zac a v.1 v.2.1) (bad:=false) (good:=tr ((Gd a).length<=8/\J6 (Zjj (Gd a)) (Gd a).length))
  (λk c x e _=>by
   have f:(Zjj (Gd a))[k]?=some (GV c):=by simp[Zjj,x]
   simp only[Zac,show(k:Int)<((Gd a).length:Int)from by omega,Ui,Zp,x,Bq,Zq5 c (JJ H x)];rw[Zk (by grind),Xf f,Y3];constructor
   ·intro r;rw[Uc (ZY r)]
   ·intro r;rw[Ue (by rw[Yq r];simp)])
  (λd=>by
   have E:(Zjj (Gd a)).take (Gd a).length=Zjj (Gd a):=by rw[show(Gd a).length=(Zjj (Gd a)).length by simp[Zjj],Uq]
   have n:(Zjj (Gd a)).length=(Gd a).length:=by simp[Zjj]
   simp only[Zac,Uf,Uh,E];by_cases b:(Gd a).length<=8
   ·rw[QP,ZcU _ (by rw[n];omega),Bq,n]
    grind
   ·rw[QQ,Yq (λq=>b q.1)])
 refine(show ZA (λv=>Zac a v.1 v.2.1) (([]:List (List UInt8)),(0:Int),())=_ from this).trans ?_;rw[Zlq];congr 1;refine Zap ?_;rw[ZeF];exact⟨λq=>⟨q.2.1,q.1,q.2.2⟩,λq=>⟨q.2.1,q.1,q.2.2⟩⟩
variable {f:α->List UInt8}
theorem ZpZ {x:α} (d:k<=1048576) (a:k<=l.length) {step:Int×Unit->Option ((Int×Unit)⊕ρ)}
  (s:∀(j:Nat) (y:α),j<k->l[j]?=some y->step ((j:Int),())=some (if f y=f x then .inr bad else .inl (Wq ((j:Int)+1),())))
  (c:step ((k:Int),())=some (.inr good)):ZA step ((0:Int),())=some (sel (∀(j:Nat) (q:α),j<k->l[j]?=some q->f q≠f x) good bad):=by
 rw[Zp9 k (by omega) (λj=>∀ q,l[j]?=some q->f q≠f x) (bad:=bad) (good:=good) (λj b=>by
  grind) (λ_=>c)]
 congr 1;have e:(∀j,j<k->∀q,l[j]?=some q->f q≠f x)<->(∀(j:Nat) (q:α),j<k->l[j]?=some q->f q≠f x):=⟨λh j q b H=>h j b q H,λh j b q H=>h j q b H⟩;rw[propext e]
theorem Zoc (h:sm X9 a):Zg1 a=some (tr (ZtF a)):=by
 have b:=ZoZ h;have m:=Zv b;unfold Zg1;rw[V8 (QK b) (λk c=>ZlA c/\∀ (j:Nat) (q:Zo),j<k->(Gd a)[j]?=some q->GV q≠GV c) (bad:=false) (good:=tr ((Gd a).length<=8))
  (λk c H g _=>by
   simp only[Zen,show(k:Int)<((Gd a).length:Int)from by omega,Ui,Zp,H,Bq,Zrf c (JJ b H)];by_cases z:ZlA c
   ·rw[Uc (ZY z),ZpZ (f:=GV) (l:=Gd a) (x:=c) (k:=k) (by omega) (by omega) (bad:=.inr false) (good:=.inl (Wq ((k:Int)+1),()))
     (λj y e i=>by
      simp only[Zem,show (j:Int)<(k:Int) from by omega,Ui,Zp,i,Bq];split<;>rfl)
     (by simp only[Zem,Uf,Uh])]
    constructor
    ·intro r;rw[Vh r.2]
    ·intro r;rw[QF (λq=>r ⟨z,q⟩)]
   ·rw[Ue (by rw[Yq z];simp)]
    grind)
  (λ_=>by
   simp only[Zen,Uf,Uh];congr 2;exact (Zrm (by grind)).symm)]
 rw[Zlq];congr 1;refine Zap ?_;unfold ZtF;rw[Zjj,Zul,<-ZeF];constructor
 ·rintro⟨q,s⟩
  exact⟨s,λk x H=>(q k x H).1,λk x H=>⟨(q k x H).1.1,(q k x H).2⟩⟩
 ·rintro⟨s,Q,d⟩
  exact⟨λk x H=>⟨Q k x H,(d k x H).2⟩,s⟩
theorem Zhp (l:List (List UInt8)) (a:l.length<=1048576) (V:∀s∈l,s.length<=4611686018427387904):Zea l=some (tr (J6 l l.length)):=by
 unfold Zea;rw[V8 (show Len l by show l.length<=4611686018427387904;omega) (λk s=>Zbr s=true/\∀ (j:Nat) (q:List UInt8),j<k->l[j]?=some q->id q≠id s) (bad:=false) (good:=true)
  (λk s h H _=>by
   simp only[Ze8,show(k:Int)<(l.length:Int)from by omega,Ui,Zp,h,Bq,Zch s (V s (Ud h))];by_cases z:Zbr s=true
   ·rw[Uc z,ZpZ (f:=id) (l:=l) (x:=s) (k:=k) (by omega) (by omega) (bad:=.inr false) (good:=.inl (Wq ((k:Int)+1),()))
     (λj y b i=>by
      simp only[Ze7,show (j:Int)<(k:Int) from by omega,Ui,Zp,i,Bq,id];split<;>rfl)
     (by simp only[Ze7,Uf,Uh])]
    constructor
    ·intro r;rw[Vh r.2]
    ·intro r;rw[QF (λq=>r ⟨z,q⟩)]
   grind)
  (λ_=>by simp only[Ze8,Uf,Uh]),Zjo]
 congr 1;refine Zap ?_;have:=Zul id l
 simp_all
def Q7 (d:Zb):List (List UInt8):=(K3 d).map Gq
def Zel (d:Zb):List (List UInt8):=(Ge d).map GT
def Zms (d:Zb):Prop:=(K3 d).length<=14/\(K5 d).length<=30/\(Ge d).length<=8/\J6 (Q7 d) (Q7 d).length/\J6 (K5 d) (K5 d).length/\J6 (Zel d) (Zel d).length
theorem gather (b:l.length<=1048576) (f:α->List UInt8) {step:List (List UInt8)×Int×Unit->Option ((List (List UInt8)×Int×Unit)⊕ρ)}
  (q:∀(k:Nat) (x:α) (o:List (List UInt8)),l[k]?=some x->(k:Int)<(l.length:Int)->o.length=k->step (o,(k:Int),())=Zy ((o.length+[f x].length)*16<=140737488355328) (some (.inl (o++[f x],Wq ((k:Int)+1),()))))
  (H:step (l.map f,(l.length:Int),())=some (.inr good)):ZA step (([]:List (List UInt8)),(0:Int),())=some good:=by
 refine(show ZA step (([]:List (List UInt8)),(0:Int),())=some good from Yv (l:=l) (λk=>((l.map f).take k,(k:Int),())) (λk x H a=>?_) ?_)
 ·have n:(l.map f)[k]?=some (f x):=by simp[H]
  have h:((l.map f).take k).length=k:=by grind
  rw[q k x _ H (by omega) h,Zk (by grind),Xf n,Y3]
 ·have E:(l.map f).take l.length=l.map f:=by rw[show l.length=(l.map f).length by simp,Uq]
  grind
theorem Zbw {d:Zb} (h:sm YN d):sm (.sl Jf) (K3 d)/\sm (.sl Zo7) (Ge d)/\sm (.sl .str) (K5 d):=by
 refine⟨?_,?_,?_⟩
 ·first|exact h.1|exact h.2.1|exact h.2.2.1|exact h.2.2.2.1
 ·first|exact h.1|exact h.2.1|exact h.2.2.1|exact h.2.2.2.1
 ·first|exact h.1|exact h.2.1|exact h.2.2.1|exact h.2.2.2.1
theorem Zjt {x:Zd} (h:sm Jf x):sm .str (Gq x)/\sm (.sl (.int .i64)) (Gc x):=by
 refine⟨?_,?_⟩
 ·first|exact h.1|exact h.2.1|exact h.2.2.1|exact h.2.2.2.1
 ·first|exact h.1|exact h.2.1|exact h.2.2.1|exact h.2.2.2.1
theorem ZD1 {x:Z6} (h:sm Zo7 x):sm .str (GT x):=by
 first|exact h.1|exact h.2.1|exact h.2.2.1|exact h.2.2.2.1
variable (d:Zb)
theorem ZjN (h:sm YN d):ZbS d=some (tr (Zms d)):=by
 obtain⟨j,m,n⟩:=Zbw h;have s:=Zv j;have S:=Zv m;have t:=Zv n;unfold ZbS;refine gather (l:=K3 d) s Gq (λk x o g H r=>?_) ?_
 ·simp only[Za8,H,Ui,Zp,g,Bq]
 simp only[Za8,Uf,Uh];have i:(Q7 d).length=(K3 d).length:=by simp[Q7]
 have p:(Zel d).length=(Ge d).length:=by simp[Zel]
 refine gather (l:=Ge d) S GT (λk x o g H r=>?_) ?_
 ·simp only[Za7,H,Ui,Zp,g,Bq]
 simp only[Za7,Uf,Uh];rw[show List.map GT (Ge d)=Zel d from rfl,show List.map Gq (K3 d)=Q7 d from rfl];simp only[i,p,ZcU _ (show(Q7 d).length<=4611686018427387904 by omega),ZcU _ (show(Zel d).length<=4611686018427387904 by omega),ZcU _ (show(K5 d).length<=4611686018427387904 by omega),Bq];unfold Zms;rw[i,p];by_cases a:(K3 d).length<=14
 ·rw[QP]
  by_cases b:(K5 d).length<=30
  ·rw[QP]
   by_cases c:(Ge d).length<=8
   ·rw[QP]
    by_cases e:J6 (Q7 d) (K3 d).length
    ·rw[Uc (ZY e)]
     by_cases f:J6 (K5 d) (K5 d).length
     ·rw[Uc (ZY f)]
      grind
     ·rw[Ue (by rw[Yq f];simp),Yq (λq=>f q.2.2.2.2.1)]
    ·rw[Ue (by rw[Yq e];simp),Yq (λq=>e q.2.2.2.1)]
   ·rw[QQ,Yq (λq=>c q.2.2.1)]
  ·rw[QQ,Yq (λq=>b q.2.1)]
 ·rw[QQ,Yq (λq=>a q.1)]
def ZoM (n:Nat) (s:List Int):List Int:=(List.range n).map (λ(j:Nat)=>((s.countP (λx=>decide (x=(j:Int))):Nat):Int))
theorem Zld (n:Nat) (s:List Int):(ZoM n s).length=n:=by simp[ZoM]
theorem Zsi (n:Nat):ZoM n []=List.replicate n 0:=by
 apply Uy;intro i;simp only[ZoM,List.countP_nil,UL,Kb,Kv];grind
variable {s:List Int}
theorem ZjI (h:j<n:=by omega):(ZoM n s)[j]?=some ((s.countP (λx=>decide (x=(j:Int))):Nat):Int):=by
 simp[ZoM,h]
variable {x:Int}
theorem ZEu (m:0<=x) (d:x<(n:Int)):atI (ZoM n s) x=some ((s.countP (λy=>decide (y=x)):Nat):Int):=by
 refine Yr m ?_;rw[ZjI,show(x.toNat:Int)=x by omega]
theorem ZB6 (m:0<=x) (d:x<(n:Int)):List.set (ZoM n s) (Int.toNat x) (((s.countP (λy=>decide (y=x)):Nat):Int)+1)=ZoM n (s++[x]):=by
 apply Uy;intro i;rw[UR];by_cases l:i<n
 ·rw[ZjI l,ZjI l,Kp,Zld]
  grind
 ·have d:(ZoM n s)[i]?=none:=by rw[UA];rw[Zld];omega
  have f:(ZoM n (s++[x]))[i]?=none:=by rw[UA];rw[Zld];omega
  grind
theorem ZkG (m:0<=x) (d:x<(n:Int)) (q:s.length<=1048576000) (F:List Int->Option τ) :
  ((atI (ZoM n s) x).bind λy=>F (List.set (ZoM n s) (Int.toNat x) (Wq (y+1))))=F (ZoM n (s++[x])):=by
 have f:=List.countP_le_length (p:=λy=>decide (y=x)) (l:=s);rw[ZEu m d,Bq,QR,ZB6 m d]
def QA (x:Zd):Int:=(Gc x).getLastD 0
def ZbJ (d:Zb) (n:Int):Prop:=0<=n/\n<=((K5 d).length:Int)-1
def Zki (a:Zu) (d:Zb) (x:Zd):Prop :=
 (0<=Gr x/\Gr x<=((Gd a).length:Int)-1)/\(∃c,(Gd a)[(Gr x).toNat]?=some c/\(Gc x).length=(Gb c).length)/\∀n∈Gc x,ZbJ d n
def ZlD (d:Zb) (p:Z6):Prop:=(1<=GF p/\GF p<=2)/\ZbJ d (GK p)
def ZoO (d:Zb):List Int:=(K3 d).map QA++((Ge d).filter (λp=>decide (GF p=1))).map GK
def Zjc (d:Zb):Prop:=∀x∈ZoM (K5 d).length (ZoO d),x=1
def Ql (a:Zu) (d:Zb):Prop:=ZtF a/\Zms d/\(∀x∈K3 d,Zki a d x)/\(∀p∈Ge d,ZlD d p)/\Zjc d
theorem Zki.last {a:Zu} {d:Zb} {x:Zd} (h:Zki a d x) (l:ZtF a) (V:(Gc x).length<=1048576):atI (Gc x) (Wq (((Gc x).length:Int)-1))=some (QA x)/\ZbJ d (QA x):=by
 obtain⟨_,⟨c,q,b⟩,H⟩:=h;have f:2<=(Gb c).length:=(l.2.1 c (Ud q)).2.1.1;unfold QA;cases n:Gc x with
 |nil=>grind
 |cons y r =>
  rw[n]at V;rw[ZlF V (by simp),Zp];grind
theorem Zej (n:Int) (h:sm YN d):XD d n=some (tr (ZbJ d n)):=by
 have t:=Zv (Zbw h).2.2;unfold XD;rw[show XG (K5 d)=some ((K5 d).length:Int)from rfl,Bq,QR];exact Za6 (JN _ _ _)
theorem ZiZ (a:Zu) (x:Zd) (N:sm YN d) (H:sm X9 a) (l:sm Jf x):ZaX d a x=some (tr (Zki a d x)):=by
 have s:=Zv (ZoZ H);unfold ZaX;rw[show Vn (Gd a)=some ((Gd a).length:Int)from rfl,Bq,QR];refine ZaH (P:=(0<=Gr x/\Gr x<=((Gd a).length:Int)-1)/\Zki a d x) (XA (JN _ _ _) (λw=>?_)) ⟨λq=>q.2,λq=>⟨q.1,q⟩⟩;obtain⟨c,f,z⟩:=Zrw w.1 (show Gr x<((Gd a).length:Int) by omega);rw[f,Bq];refine ZaH (P:=((Gc x).length:Int)=((Gb c).length:Int)/\∀n∈Gc x,ZbJ d n) (YP (λm=>?_)) ?_
 ·rw[Vu (QK (Zjt l).2) (λn=>!tr (ZbJ d n)) (λn _=>by
   unfold Q5;show (XD d n).bind _=_;rw[Zej d n N];rfl),Bq]
  refine Zdl ?_;rw[UT,List.any_eq_false];constructor
  ·intro q n h
   have:=q n h;simp only[UT,Bool.not_eq_false]at this;exact(YS _).1 this
  ·intro q n h
   simp only[UT,Bool.not_eq_false];exact ZY (q n h)
 ·constructor
  ·rintro⟨Q,b⟩;exact⟨w,⟨c,z,by omega⟩,b⟩
  ·rintro⟨_,⟨L,Q,b⟩,e⟩
   grind
theorem Zwx {d:Zb} {p:Z6} (l:(Ge d)[k]?=some p) (s:List Int) :
  s++(((Ge d).take (k+1)).filter (λp=>decide (GF p=1))).map GK=(if GF p=1 then(s++(((Ge d).take k).filter (λp=>decide (GF p=1))).map GK)++[GK p]else s++(((Ge d).take k).filter (λp=>decide (GF p=1))).map GK):=by
 rw[Xf l,Ki,Kd];grind
theorem Zzt {d:Zb} (k m:Nat):(((K3 d).take m).map QA++(((Ge d).take k).filter (λp=>decide (GF p=1))).map GK).length<=(K3 d).length+(Ge d).length:=by
 grind
theorem ZoQ (e:sm X9 a) (N:sm YN d):ZhC a d=some (tr (Ql a d)):=by
 obtain⟨c,f,g⟩:=Zbw N;have S:=Zv c;have w:=Zv f;have y:=Zv g;unfold ZhC;refine ZaH (P:=ZtF a/\Zms d/\(Zei (K3 d) (λ_ x=>Zki a d x)/\(Zei (Ge d) (λ_ p=>ZlD d p)/\Zjc d))) (XA (ZnH a e) (λj=>XA (ZjN d N) (λu=>?_))) (by rw[ZeF,ZeF];exact Iff.rfl);rw[Ra,Ra,Ra,Ra];have:=ZjW (l:=K3 d) (ρ:=Bool) (λk=>((k:Int),ZoM (K5 d).length (((K3 d).take k).map QA),())) (λ_ x=>Zki a d x) (step:=λv=>ZcE a d v.1 v.2.1) (bad:=false) (good:=tr (Zei (Ge d) (λ_ p=>ZlD d p)/\Zjc d))
  (λk x h m _=>by
   have G:=JJ c h;simp only[ZcE,show(k:Int)<((K3 d).length:Int)from by omega,Ui,Zp,h,Bq,ZiZ d a x N e G];constructor
   ·intro r
    obtain⟨E,i⟩:=r.last j (Zv (Zjt G).2);rw[Uc (ZY r),E,Bq,ZkG i.1 (by have:=i.2;omega) (by grind) (F:=λo=>some (Sum.inl (Wq ((k:Int)+1),o,()))),Xf h,Kd,Y3];rfl
   ·intro r;rw[Ue (by rw[Yq r];simp)])
  (λt=>by
   simp only[ZcE,Uf,Uh,Uq];have:=ZjW (l:=Ge d) (ρ:=Int×List Int×Unit⊕Bool) (λk=>((k:Int),ZoM (K5 d).length ((K3 d).map QA++(((Ge d).take k).filter (λp=>decide (GF p=1))).map GK),())) (λ_ p=>ZlD d p) (step:=λv=>ZaK d v.1 v.2.1) (bad:=.inr false) (good:=.inr (tr (Zjc d)))
    (λk p h m _=>by
     have s:=Zzt (d:=d) k (K3 d).length;rw[Uq]at s;simp only[ZaK,show(k:Int)<((Ge d).length:Int)from by omega,Ui,Zp,h,Bq,Zej d _ N,Zwx h];by_cases D:GF p=1
     ·simp only[D,Ui]
      constructor
      ·intro r
       rw[Uc (ZY r.2),ZkG r.2.1 (by have:=r.2.2;omega) (by omega) (F:=λo=>some (Sum.inl (Wq ((k:Int)+1),o,()))),Y3]
      ·intro r
       rw[Ue (by rw[Yq (λq=>r ⟨by omega,q⟩)];simp)]
     ·simp only[D,Uh]
      by_cases b:GF p=2
      ·simp only[b,Ui]
       constructor
       ·intro r
        rw[Uc (ZY r.2),Y3]
       ·intro r
        rw[Ue (by rw[Yq (λq=>r ⟨by omega,q⟩)];simp)]
      ·simp only[b,Uh]
       exact ⟨λr=>by have:=r.1;omega,λ_=>trivial⟩)
    (λ_=>by
     simp only[ZaK,Uf,Uh,Uq];rw[ZaP (show Len _ by show List.length _<=_;rw[Zld];omega) (λn=>!decide (n=1)) (λn _=>rfl),Bq];congr 3;refine (Zrm ?_).symm;rw[UT,List.any_eq_false];simp only[UT,Bool.not_eq_false,Ul,Kr,Classical.not_not];exact Iff.rfl)
   refine(show ZA (λv=>ZaK d v.1 v.2.1) ((0:Int),ZoM (K5 d).length ((K3 d).map QA),())=_ from(by simpa using this)).trans ?_;by_cases H:Zei (Ge d) (λ_ p=>ZlD d p)
   ·rw[Vh H];grind
   ·rw[QF H,Yq (λq=>H q.1)])
 rw[Zlq]at this;refine Eq.trans ?_ this;rw[Kt,KZ,Zsi];rfl
theorem Zo2 (m:sm X9 a) (N:sm YN d):ZhO a d=some (tr (Zei (K3 d) (λ_ x=>Zki a d x)/\Zei (Ge d) (λ_ p=>ZlD d p))):=by
 obtain ⟨H,b,e⟩:=Zbw N;have S:=Zv H;have v:=Zv b;have w:=Zv e;have y:=Zv (ZoZ m);have E:Wq (((K5 d).length:Int)-1)=((K5 d).length:Int)-1:=QR;have i:Wq (((Gd a).length:Int)-1)=((Gd a).length:Int)-1:=QR;unfold ZhO;rw[V8 (QK H) (λ_ x=>Zki a d x) (bad:=false) (good:=tr (Zei (Ge d) (λ_ p=>ZlD d p)))
  (λk x l o _=>by
   have G:=JJ H l;simp only[Zfb,show(k:Int)<((K3 d).length:Int)from by omega,Ui,Zp,l,Bq,Jy,i];by_cases h:0<=Gr x/\Gr x<=((Gd a).length:Int)-1
   ·obtain⟨c,f,z⟩:=Zrw h.1 (show Gr x<((Gd a).length:Int) by omega)
    rw[Uc (ZY h),f,Bq];by_cases g:((Gc x).length:Int)=((Gb c).length:Int)
    ·rw[Uc g,V8 (QK (Zjt G).2) (λ_ n=>ZbJ d n) (bad:=.inr false) (good:=.inl (Wq ((k:Int)+1),()))
      (λj n s t _=>by
       simp only[Ze9,show(j:Int)<((Gc x).length:Int)from by omega,Ui,Zp,s,Bq,Jy,E];constructor
       ·intro r;exact Uc (ZY r)
       ·intro r;exact Ue (λq=>r ((YS _).1 q)))
      (λ_=>by simp only[Ze9,Uf,Uh])]
     constructor
     ·intro r;rw[Vh (ZeF.2 r.2.2)]
     ·intro r;rw[QF (λq=>r ⟨h,⟨c,z,by omega⟩,ZeF.1 q⟩)]
    ·rw[Ue g]
     refine⟨λr=>?_,λ_=>rfl⟩;obtain⟨_,⟨L,Q,u⟩,_⟩:=r;grind
   ·rw[Ue (by rw[Yq h];simp)]
    exact ⟨λr=>absurd r.1 h,λ_=>rfl⟩)
  (λ_=>by
   simp only[Zfb,Uf,Uh];rw[V8 (QK b) (λ_ p=>ZlD d p) (bad:=.inr false) (good:=.inr true)
    (λk p l o _=>by
     simp only[Zfa,show(k:Int)<((Ge d).length:Int)from by omega,Ui,Zp,l,Bq,Jy,E];by_cases h:1<=GF p/\GF p<=2
     ·rw[Uc (ZY h)]
      constructor
      ·intro r;exact Uc (ZY r.2)
      ·intro r;exact Ue (λq=>r ⟨h,(YS _).1 q⟩)
     ·rw[Ue (by rw[Yq h];simp)]
      exact ⟨λr=>absurd r.1 h,λ_=>rfl⟩)
    (λ_=>by simp only[Zfa,Uf,Uh])]
   congr 1;by_cases r:Zei (Ge d) (λ_ p=>ZlD d p)
   ·rw[Vh r,ZY r]
   ·rw[QF r,Yq r])]
 rw[Zlq]
theorem Zw7 (h:∀x∈l,(f x).length<=4611686018427387904):∀s∈l.map f,s.length<=4611686018427387904:=by
 grind
theorem Zc0 (m:sm X9 a) (t:sm YN d):ZcL a d=some (tr (Ql a d)):=by
 obtain⟨c,f,g⟩:=Zbw t;have S:=Zv c;have A:=Zv f;have L:=Zv g;unfold ZcL;refine ZaH (XA (Zoc a m) (λu=>ZjF (λB=>ZjF (λC=>ZjF (λI=>XA (Zo2 a d m t) (λj=>?_))))))
  (P:=ZtF a/\¬(14:Int)<((K3 d).length:Int)/\¬(30:Int)<((K5 d).length:Int)/\¬(8:Int)<((Ge d).length:Int)/\(Zei (K3 d) (λ_ x=>Zki a d x)/\Zei (Ge d) (λ_ p=>ZlD d p))/\(J6 (Q7 d) (Q7 d).length/\J6 (Zel d) (Zel d).length/\J6 (K5 d) (K5 d).length)/\Zjc d) ?_
 ·have J:(Q7 d).length=(K3 d).length:=by simp[Q7]
  have K:(Zel d).length=(Ge d).length:=by simp[Zel]
  refine gather (l:=K3 d) S Gq (λk x o h H y=>?_) ?_
  ·simp only[Ze4,H,Ui,Zp,h,Bq]
  simp only[Ze4,Uf,Uh];refine gather (l:=Ge d) A GT (λk x o h H y=>?_) ?_
  ·simp only[Ze3,H,Ui,Zp,h,Bq]
  simp only[Ze3,Uf,Uh];rw[show List.map GT (Ge d)=Zel d from rfl,show List.map Gq (K3 d)=Q7 d from rfl];simp only[Zhp (Q7 d) (by omega) (Zw7 (λx h=>ZjA (Zjt (ZuG c h)).1)),Zhp (Zel d) (by omega) (Zw7 (λx h=>ZjA (ZD1 (ZuG f h)))),Zhp (K5 d) (by omega) (λs z=>ZjA (ZuG g z)),Bq];by_cases n1:J6 (Q7 d) (Q7 d).length
  ·rw[Uc (ZY n1)]
   by_cases n:J6 (Zel d) (Zel d).length
   ·rw[Uc (ZY n)]
    by_cases N:J6 (K5 d) (K5 d).length
    ·rw[Uc (ZY N),Ra,Ra,Ra,Ra]
     have:=Yv (l:=K3 d) (ρ:=(List (List UInt8))×Int×Unit⊕((List (List UInt8))×Int×Unit⊕Bool)) (λk=>((k:Int),ZoM (K5 d).length (((K3 d).take k).map QA),())) (step:=λv=>ZaR d v.1 v.2.1) (good:=.inr (.inr (tr (Zjc d))))
      (λk x h H=>by
       have G:=JJ c h;obtain ⟨E,i⟩:=(j.1 k x h).last u (Zv (Zjt G).2);simp only[ZaR,show (k:Int)<((K3 d).length:Int) from by omega,Ui,Zp,h,Bq];rw[E,Bq,ZkG i.1 (by have:=i.2;omega) (by grind) (F:=λo=>some (Sum.inl (Wq ((k:Int)+1),o,()))),Xf h,Kd,Y3];rfl)
      (by
       simp only[ZaR,Uf,Uh,Uq];have:=Yv (l:=Ge d) (ρ:=Int×List Int×Unit⊕((List (List UInt8))×Int×Unit⊕((List (List UInt8))×Int×Unit⊕Bool))) (λk=>((k:Int),ZoM (K5 d).length ((K3 d).map QA++(((Ge d).take k).filter (λp=>decide (GF p=1))).map GK),())) (step:=λv=>ZaQ d v.1 v.2.1) (good:=.inr (.inr (.inr (tr (Zjc d)))))
        (λk p h H=>by
         have w:=Zzt (d:=d) k (K3 d).length;rw[Uq]at w;have b:=j.2 k p h;simp only[ZaQ,show(k:Int)<((Ge d).length:Int)from by omega,Ui,Zp,h,Bq,Zwx h];by_cases D:GF p=1
         ·simp only[D,Ui]
          rw[ZkG b.2.1 (by have:=b.2.2;omega) (by omega) (F:=λo=>some (Sum.inl (Wq ((k:Int)+1),o,()))),Y3]
         ·simp only[D,Uh]
          rw[Y3])
        (by
         simp only[ZaQ,Uf,Uh,Uq];rw[V8 (l:=ZoM (K5 d).length ((K3 d).map QA++((Ge d).filter (λp=>decide (GF p=1))).map GK)) (show List.length _<=_ by rw[Zld];omega) (λ_ x=>x=1) (bad:=.inr (.inr (.inr (.inr false)))) (good:=.inr (.inr (.inr (.inr true))))
          (λk x h H _=>by
           simp only[Ze2,show (k:Int)<((ZoM (K5 d).length ((K3 d).map QA++((Ge d).filter (λp=>decide (GF p=1))).map GK)).length:Int) from by omega,Ui,Zp,h,Bq];grind)
          (λ_=>by simp only[Ze2,Uf,Uh])]
         congr 1;have e:Zei (ZoM (K5 d).length ((K3 d).map QA++((Ge d).filter (λp=>decide (GF p=1))).map GK)) (λ_ x=>x=1)<->Zjc d:=by
          rw[ZeF];exact Iff.rfl
         by_cases r:Zjc d
         ·rw[Vh (e.2 r),ZY r]
         ·rw[QF (λq=>r (e.1 q)),Yq r])
       grind)
     rw[Kt,KZ,Zsi]at this;grind
    ·rw[Ue (by rw[Yq N];simp),Yq (λq=>N q.1.2.2)]
   ·rw[Ue (by rw[Yq n];simp),Yq (λq=>n q.1.2.1)]
  ·rw[Ue (by rw[Yq n1];simp),Yq (λq=>n1 q.1.1)]
 ·unfold Ql Zms
  rw[ZeF,ZeF];grind
def cat {α β:Type} (f:Nat->α->List β):Nat->List α->List β
 |_,[]=>[]
 |k,x::r=>f k x++cat f (k+1) r
theorem Zc4 {α β:Type} (f:Nat->α->List β):∀(l r:List α) (m:Nat),cat f m (l++r)=cat f m l++cat f (m+l.length) r
 |[],r,m=>by simp[cat]
 |x::l,r,m=>by
  simp only[U3,cat,Um,Zc4 f l r,Uj];grind
theorem Zdk {f:Nat->α->List β} {x:α} (h:l[k]?=some x):cat f 0 (l.take (k+1))=cat f 0 (l.take k)++f k x:=by
 have H:=(Ua.1 h).1;rw[Xf h,Zc4];simp only[cat,Us,Uk,Un];grind
theorem XQ {α β:Type} {f:Nat->α->List β} {y:β}:∀{l:List α} {m:Nat},y∈cat f m l<->∃(k:Nat) (x:α),l[k]?=some x/\y∈f (m+k) x
 |[],m=>by simp[cat]
 |z::r,m=>by
  simp only[cat,Uu,XQ (l:=r)];constructor
  ·rintro(h|⟨k,x,d,H⟩)
   ·exact⟨0,z,rfl,h⟩
   ·exact⟨k+1,x,by simpa using d,by grind⟩
  grind
theorem ZbK {α β:Type} {f:Nat->α->List β} {c:Nat}:∀{l:List α} {m:Nat},(∀k,∀x∈l,(f k x).length<=c)->(cat f m l).length<=c*l.length
 |[],m,_=>by simp[cat]
 |z::r,m,h=>by
  simp only[cat,Ug,Um];have d:=h m z (by simp);have a:=ZbK (f:=f) (l:=r) (m:=m+1) (λk x H=>h k x (by simp[H]));grind
theorem Qp (f:Nat->α->List β) (a:List β) {step:List β×Int×Unit->Option ((List β×Int×Unit)⊕ρ)}
  (q:∀(k:Nat) (x:α),l[k]?=some x->k<l.length->step (a++cat f 0 (l.take k),(k:Int),())=some (.inl ((a++cat f 0 (l.take k))++f k x,((k+1:Nat):Int),())))
  (h:step (a++cat f 0 l,(l.length:Int),())=some (.inr good)):ZA step (a,(0:Int),())=some good:=by
 have:=Yv (l:=l) (ρ:=ρ) (λk=>(a++cat f 0 (l.take k),(k:Int),())) (step:=step) (good:=good) (λk x h H=>by
  rw[q k x h H,Zdk h,Uj]) (by grind)
 simpa[cat]using this
abbrev Pl:=Int×Int×Int×Bool×Unit
def YW (i:Nat) (x:Zd):List Pl:=cat (λj n=>[((i:Int),(j:Int),n,decide ((j:Int)=Wq (((Gc x).length:Int)-1)),())]) 0 (Gc x)
def Zcd (j:Nat) (p:Z6):List Pl:=[((-1:Int),(j:Int),GK p,decide (GF p=1),())]
def Zg (d:Zb):List Pl:=cat YW 0 (K3 d)++cat Zcd 0 (Ge d)
theorem ZxV (i:Nat) (x:Zd):(YW i x).length<=(Gc x).length:=by
 have:=ZbK (f:=λj n=>[((i:Int),(j:Int),n,decide ((j:Int)=Wq (((Gc x).length:Int)-1)),())]) (c:=1) (l:=Gc x) (m:=0) (λ_ _ _=>by simp);simpa[YW]using this
structure Few (d:Zb):Prop where
 insts:(K3 d).length<=14
 ports:(Ge d).length<=8
 nets:∀x∈K3 d,(Gc x).length<=5
variable {a:Zu} {d:Zb}
theorem Ql.few (h:Ql a d):Few d:=by
 refine⟨h.2.1.1,h.2.1.2.2.1,λx l=>?_⟩;obtain⟨_,⟨c,q,f⟩,_⟩:=h.2.2.1 x l;have:=(h.1.2.1 c (Ud q)).2.1.2.1;omega
theorem Zfo (h:Few d) (k:Nat):(cat YW 0 ((K3 d).take k)).length<=70:=by
 have:=ZbK (f:=YW) (c:=5) (l:=(K3 d).take k) (m:=0) (λi x a=>by
  have H:=ZxV i x;have b:=h.nets x (KJ a);omega)
 have H:=h.insts;grind
theorem ZkF (h:Few d) (k:Nat):(cat Zcd 0 ((Ge d).take k)).length<=8:=by
 have:=ZbK (f:=Zcd) (c:=1) (l:=(Ge d).take k) (m:=0) (λi x a=>by simp[Zcd]);have H:=h.ports;grind
theorem ZQ (h:Few d):(Zg d).length<=78:=by
 have H:=Zfo h (K3 d).length;have f:=ZkF h (Ge d).length;rw[Uq]at H f;unfold Zg;grind
variable (d:Zb)
theorem ZM (h:Few d):ZV d=some (Zg d):=by
 have a:=h.insts;have e:=h.ports;unfold ZV;refine Qp (l:=K3 d) YW [] (λk x H g=>?_) ?_
 ·have i:=h.nets x (Ud H)
  have q:=Zfo h k;simp only[Uw,Zb5,show(k:Int)<((K3 d).length:Int)from by omega,Ui,Zp,H,Bq];refine Qp (l:=Gc x) (λj n=>[((k:Int),(j:Int),n,decide ((j:Int)=Wq (((Gc x).length:Int)-1)),())]) _ (λj n b u=>?_) ?_
  ·have T:=ZbK (f:=λj n=>[((k:Int),(j:Int),n,decide ((j:Int)=Wq (((Gc x).length:Int)-1)),())]) (c:=1) (l:=(Gc x).take j) (m:=0) (λ_ _ _=>by simp)
   rw[Uk]at T;simp only[Zb3,show(j:Int)<((Gc x).length:Int)from by omega,Ui,Zp,b,Bq];rw[Zk (by grind),Y3]
  ·simp only[Zb3,Uf,Uh]
   rw[Y3];rfl
 ·have q:=Zfo h (K3 d).length
  rw[Uq]at q;simp only[Uw,Zb5,Uf,Uh];refine Qp (l:=Ge d) Zcd _ (λj p b u=>?_) ?_
  ·have T:=ZkF h j
   simp only[Zb4,show(j:Int)<((Ge d).length:Int)from by omega,Ui,Zp,b,Bq];rw[Zk (by grind),Y3];rfl
  ·simp only[Zb4,Uf,Uh];rfl
theorem ZP (h:Few d):YJ d=some (Zg d):=by
 have a:=h.insts;have e:=h.ports;unfold YJ;refine Qp (l:=K3 d) YW [] (λk x H g=>?_) ?_
 ·have i:=h.nets x (Ud H)
  have q:=Zfo h k;simp only[Uw,Zes,show(k:Int)<((K3 d).length:Int)from by omega,Ui,Zp,H,Bq];refine Qp (l:=Gc x) (λj n=>[((k:Int),(j:Int),n,decide ((j:Int)=Wq (((Gc x).length:Int)-1)),())]) _ (λj n b u=>?_) ?_
  ·have T:=ZbK (f:=λj n=>[((k:Int),(j:Int),n,decide ((j:Int)=Wq (((Gc x).length:Int)-1)),())]) (c:=1) (l:=(Gc x).take j) (m:=0) (λ_ _ _=>by simp)
   rw[Uk]at T;simp only[Zeq,show(j:Int)<((Gc x).length:Int)from by omega,Ui,Zp,b,Bq];rw[Zk (by grind),Y3]
  ·simp only[Zeq,Uf,Uh]
   rw[Y3];rfl
 ·have q:=Zfo h (K3 d).length
  rw[Uq]at q;simp only[Uw,Zes,Uf,Uh];refine Qp (l:=Ge d) Zcd _ (λj p b u=>?_) ?_
  ·have T:=ZkF h j
   simp only[Zer,show(j:Int)<((Ge d).length:Int)from by omega,Ui,Zp,b,Bq];rw[Zk (by grind),Y3];rfl
  ·simp only[Zer,Uf,Uh];rfl
def Qu (net:Int) (i:Nat) (x:Pl):List Int:=if x.2.2.1=net then(if x.2.2.2.1=true then[]else[(i:Int)])else[]
def Xx (d:Zb) (net:Int):List Int:=cat (Qu net) 0 (Zg d)
variable (net:Int)
theorem ZaN (l:List Pl) (m:Nat):(cat (Qu net) m l).length<=l.length:=by
 have:=ZbK (f:=Qu net) (c:=1) (l:=l) (m:=m) (λi x _=>by
  unfold Qu;grind)
 omega
theorem ZbU (h:Few d):Zb6 d net=some (Xx d net):=by
 have g:=ZQ h;unfold Zb6;rw[ZM d h,Bq];refine Qp (l:=Zg d) (Qu net) [] (λk x H a=>?_) ?_
 ·have q:=ZaN net ((Zg d).take k) 0
  rw[Uk]at q;simp only[Uw,ZcC,show(k:Int)<((Zg d).length:Int)from by omega,Ui,Zp,H,Bq,Qu,Y3 (show k<=1048576 by omega)];split
  ·split
   ·rw[Un]
   ·rw[Zk (by
     grind)]
  grind
 ·simp only[Uw,ZcC,Uf,Uh];rfl
theorem Xn (h:Few d):Xv d net=some (Xx d net):=by
 have g:=ZQ h;unfold Xv;rw[ZP d h,Bq];refine Qp (l:=Zg d) (Qu net) [] (λk x H a=>?_) ?_
 ·have q:=ZaN net ((Zg d).take k) 0
  rw[Uk]at q;simp only[Uw,Zfc,show(k:Int)<((Zg d).length:Int)from by omega,Ui,Zp,H,Bq,Qu,Y3 (show k<=1048576 by omega)];split
  ·split
   ·rw[Un]
   ·rw[Zk (by
     grind)]
  grind
 ·simp only[Uw,Zfc,Uf,Uh];rfl
def loads (d:Zb):List Int:=((Zg d).filter (λx=>!x.2.2.2.1)).map (λx=>x.2.2.1)
theorem Zqv (net:Int):∀(l:List Pl) (m:Nat),(cat (Qu net) m l).length=((l.filter (λx=>!x.2.2.2.1)).map (λx=>x.2.2.1)).countP (λy=>decide (y=net))
 |[],m=>by simp[cat]
 |x::r,m=>by
  simp only[cat,Ug,Zqv net r,Qu];grind
theorem Zk1 {w:Zq} (h:sm ZbR w):sm (.sl (.int .i64)) (K8 w)/\sm (.sl (.int .i64)) (GB w)/\sm (.sl (.int .i64)) (GE w)/\sm (.sl (.int .i64)) (Gu w):=by
 refine⟨?_,?_,?_,?_⟩;all_goals first|exact h.1|exact h.2.1|exact h.2.2.1|exact h.2.2.2.1
variable {b:Za}
theorem Vi (h:sm Ya b):sm X9 (K6 b)/\sm YN (K2 b)/\sm (.sl ZbR) (K4 b):=by
 refine⟨?_,?_,?_⟩;all_goals first|exact h.1|exact h.2.1|exact h.2.2.1|exact h.2.2.2.1
def Zpo (w:Zq) (k:Nat) (x:Int):Prop:=(k=0->x=-1/\(GB w)[0]?=some 0)/\(0<k->0<=x/\x<=(k:Int)-1)
def Zcs (w:Zq) (s:Int):Prop :=
 (1<=(K8 w).length/\(K8 w).length<=8)/\(GB w).length=(K8 w).length/\(GE w).length=(K8 w).length/\((Gu w).length:Int)=s/\
 Zei (K8 w) (Zpo w)/\Zja (GB w) 0 1000/\Zja (GE w) 0 500/\Zja (Gu w) 0 (((K8 w).length:Int)-1)
theorem Ziy (l:List Int) (o h:Int) (q:l.length<=1048576):Qe l o h=some (tr (Zja l o h)):=by
 rw[Zd5 l o h];exact Zdl (Zmu _ _ _)
variable (w:Zq)
theorem Zl6 (c:sm ZbR w) (d:1<=(K8 w).length:=by omega) (f:(GB w).length=(K8 w).length:=by omega):ZeM w=some (tr (Zei (K8 w) (Zpo w))):=by
 obtain ⟨a,A,j,b⟩:=Zk1 c;have s:=Zv a;unfold ZeM;have F:(GB w)[0]?=some (GB w)[0]:=Ub (by omega);rw[V8 (QK a) (Zpo w) (bad:=false) (good:=true)
  (λk x l e _=>by
   simp only[Zdf,show(k:Int)<((K8 w).length:Int)from by omega,Ui,Zp,l,Bq];unfold Zpo;by_cases H:k=0
   ·subst H
    rw[Uc (by rfl),show atI (GB w) 0=some (GB w)[0]from F,F];grind
   ·rw[QQ,QP,JN,Bq,QR]
    constructor
    ·intro r;rw[Uc (ZY (r.2 (by omega)))]
    ·intro r;rw[Ue (λq=>r ⟨λh=>absurd h H,λ_=>(YS _).1 q⟩)])
  (λ_=>by simp only[Zdf,Uf,Uh]),Zjo]
variable (s:Int)
theorem ZlN (c:sm ZbR w):Zh9 w s=some (tr (Zcs w s)):=by
 obtain⟨a,A,j,k⟩:=Zk1 c;have h:=Zv a;have S:=Zv A;have t:=Zv j;have b:=Zv k;unfold Zh9;simp only[VZ,Bq,YI (show(-9223372036854775808:Int)<=((K8 w).length:Int)-1 by omega)];refine ZaH (XA (JN _ _ _) (λQ=>YP (λq=>YP (λd=>XA (Zl6 w c) (λf=>XA (Ziy _ _ _ S) (λg=>XA (Ziy _ _ _ t) (λi=>YP (λe=>Za6 (Ziy _ _ _ b))))))))) ?_;unfold Zcs;grind
theorem Zwg {l:List Int} {o:Int}:Zja l o i<->∀(k:Nat) (x:Int),l[k]?=some x->o<=x/\x<=i:=by
 unfold Zja;constructor
 ·intro h k x H;exact h x (Ud H)
 ·intro h x H
  obtain⟨k,a⟩:=UC.1 H;exact h k x a
theorem Zi6 (y:sm ZbR w):Zik w s=some (tr (Zcs w s)):=by
 obtain⟨A,u,v,n⟩:=Zk1 y;have S:=Zv A;have D:=Zv u;have G:=Zv v;have I:=Zv n;have E:Wq (((K8 w).length:Int)-1)=((K8 w).length:Int)-1:=QR;unfold Zik;refine ZaH (ZjF (λo=>ZjF (λp=>YP (λt=>YP (λz=>YP (λg=>?_)))))) ?_
  (P:=¬((K8 w).length:Int)<1/\¬(8:Int)<((K8 w).length:Int)/\((GB w).length:Int)=((K8 w).length:Int)/\((GE w).length:Int)=((K8 w).length:Int)/\((Gu w).length:Int)=s/\
   (Zei (K8 w) (λk x=>(∀ c,(GE w)[k]?=some c->0<=c/\c<=500)/\(∀ r,(GB w)[k]?=some r->0<=r/\r<=1000)/\Zpo w k x)/\Zja (Gu w) 0 (((K8 w).length:Int)-1)))
 ·rw[V8 (QK A) (λk x=>(∀ c,(GE w)[k]?=some c->0<=c/\c<=500)/\(∀ r,(GB w)[k]?=some r->0<=r/\r<=1000)/\Zpo w k x) (bad:=false) (good:=tr (Zja (Gu w) 0 (((K8 w).length:Int)-1)))
   (λk x b d _=>by
    have a:(GE w)[k]?=some (GE w)[k]:=Ub (by omega);have F:(GB w)[k]?=some (GB w)[k]:=Ub (by omega);simp only[ZgL,show(k:Int)<((K8 w).length:Int)from by omega,Ui,Zp,a,F,b,Bq,Jy,Option.some.injEq,forall_eq'];generalize (GE w)[k]=c at a;generalize (GB w)[k]=r at F;by_cases Q:0<=c/\c<=500
    ·rw[Uc (ZY Q)]
     by_cases m:0<=r/\r<=1000
     ·rw[Uc (ZY m)]
      unfold Zpo;by_cases f:k=0
      ·simp_all
      ·rw[QQ,QP,YI (show(-9223372036854775808:Int)<=(k:Int)-1 by omega)]
       constructor
       ·intro H;rw[Uc (ZY (H.2.2.2 (by omega)))]
       ·intro H;rw[Ue (λq=>H ⟨Q,m,λh=>absurd h f,λ_=>(YS _).1 q⟩)]
     ·rw[Ue (λq=>m ((YS _).1 q))]
      grind
    ·rw[Ue (λq=>Q ((YS _).1 q))]
     grind)
   (λ_=>by
    simp only[ZgL,Uf,Uh];rw[V8 (QK n) (λ_ x=>0<=x/\x<=((K8 w).length:Int)-1) (bad:=.inr false) (good:=.inr true)
     (λk x b d _=>by
      simp only[ZgK,show(k:Int)<((Gu w).length:Int)from by omega,Ui,Zp,b,Bq,Jy,E];constructor
      ·intro H;rw[Uc (ZY H)]
      ·intro H;rw[Ue (λq=>H ((YS _).1 q))])
     (λ_=>by simp only[ZgK,Uf,Uh])]
    congr 1;have e:Zei (Gu w) (λ_ x=>0<=x/\x<=((K8 w).length:Int)-1)<->Zja (Gu w) 0 (((K8 w).length:Int)-1):=ZeF;by_cases H:Zja (Gu w) 0 (((K8 w).length:Int)-1)
    ·rw[Vh (e.2 H),ZY H]
    ·rw[QF (λq=>H (e.1 q)),Yq H]),Zlq]
 ·unfold Zcs
  rw[Zwg (l:=GB w),Zwg (l:=GE w)];constructor
  ·rintro⟨o,p,t,z,g,i,j⟩
   refine⟨⟨by omega,by omega⟩,by omega,by omega,g,λk x b=>(i k x b).2.2,λk r F=>?_,λk c a=>?_,j⟩
   ·have d:=(Ua.1 F).1
    exact(i k _ (Ub (by omega))).2.1 r F
   ·have d:=(Ua.1 a).1
    exact(i k _ (Ub (by omega))).1 c a
  ·rintro⟨o,p,t,g,i,j,B,C⟩
   exact⟨by omega,by omega,by omega,by omega,g,λk x b=>⟨λc a=>B k c a,λr F=>j k r F,i k x b⟩,C⟩
def ZiV (b:Za):Prop :=
 Ql (K6 b) (K2 b)/\(K4 b).length=(K5 (K2 b)).length/\Zei (K4 b) (λk w=>Zcs w ((Xx (K2 b) (k:Int)).length:Int))
variable {d:Zb} {x:Pl}
theorem XP (h:Ql a d) (l:x∈Zg d):ZbJ d x.2.2.1:=by
 unfold Zg at l;rcases Uu.1 l with l|l
 ·obtain⟨i,z,H,T⟩:=XQ.1 l
  unfold YW at T;obtain⟨j,n,b,f⟩:=XQ.1 T;simp only[Ux]at f;subst f;exact(h.2.2.1 z (Ud H)).2.2 n (Ud b)
 ·obtain⟨j,p,b,g⟩:=XQ.1 l
  simp only[Zcd,Ux]at g;subst g;exact(h.2.2.2.1 p (Ud b)).2
theorem Qb (b:Za) (h:sm Ya b):QV b=some (tr (ZiV b)):=by
 obtain⟨a,A,j⟩:=Vi h;have t:=Zv j;unfold QV;refine ZaH (XA (Zc0 _ _ a A) (λd=>YP (λQ=>?_))) ?_
  (P:=Ql (K6 b) (K2 b)/\((K4 b).length:Int)=((K5 (K2 b)).length:Int)/\Zei (K4 b) (λk w=>Zcs w ((Xx (K2 b) (k:Int)).length:Int)))
 ·rw[V8 (QK j) (λk w=>Zcs w ((Xx (K2 b) (k:Int)).length:Int)) (bad:=false) (good:=true)
   (λk w l H _=>by
    simp only[Zf2,show(k:Int)<((K4 b).length:Int)from by omega,Ui,Zp,l,Bq,Xn _ _ d.few,Zi6 w _ (JJ j l)];constructor
    ·intro r;rw[Uc (ZY r)]
    ·intro r;rw[Ue (λq=>r ((YS _).1 q))])
   (λ_=>by simp only[Zf2,Uf,Uh]),Zjo]
 ·unfold ZiV
  grind
theorem Zx3 {l:List Pl} (h:l[k]?=some x) :
  (((l.take (k+1)).filter (λx=>!x.2.2.2.1)).map (λx=>x.2.2.1))=if x.2.2.2.1=true then(((l.take k).filter (λx=>!x.2.2.2.1)).map (λx=>x.2.2.1))else(((l.take k).filter (λx=>!x.2.2.2.1)).map (λx=>x.2.2.1))++[x.2.2.1]:=by
 rw[Xf h,Ki,Kd];grind
theorem ZfK (b:Za) (e:sm Ya b):Zg8 b=some (tr (ZiV b)):=by
 obtain⟨A,c,j⟩:=Vi e;have t:=Zv j;unfold Zg8;refine ZaH (XA (ZoQ _ _ A c) (λd=>YP (λQ=>?_))) ?_
  (P:=Ql (K6 b) (K2 b)/\((K4 b).length:Int)=((K5 (K2 b)).length:Int)/\Zei (K4 b) (λk w=>Zcs w ((Xx (K2 b) (k:Int)).length:Int)))
 ·rw[Ra,Ra,Ra,Ra,ZM _ d.few,Bq]
  have i:=ZQ d.few;have:=Yv (l:=Zg (K2 b)) (ρ:=Bool) (λk=>((k:Int),ZoM (K4 b).length ((((Zg (K2 b)).take k).filter (λx=>!x.2.2.2.1)).map (λx=>x.2.2.1)),())) (step:=λv=>Zdo b (Zg (K2 b)) v.1 v.2.1) (good:=tr (Zei (K4 b) (λk w=>Zcs w ((Xx (K2 b) (k:Int)).length:Int))))
   (λk x h a=>by
    have f:=XP d (Ud h);have H:=List.length_filter_le (λx:Pl=>!x.2.2.2.1) ((Zg (K2 b)).take k);rw[Uk]at H;simp only[Zdo,show(k:Int)<((Zg (K2 b)).length:Int)from by omega,Ui,Zp,h,Bq,Zx3 h];by_cases N:x.2.2.2.1=true
    ·rw[Uc N,Uc N,Y3]
    ·rw[Ue N,Ue N,ZkG f.1 (by have:=f.2;grind) (by grind) (F:=λo=>some (Sum.inl (Wq ((k:Int)+1),o,()))),Y3])
   (by
    simp only[Zdo,Uf,Uh,Uq];rw[V8 (QK j) (λk w=>Zcs w ((Xx (K2 b) (k:Int)).length:Int)) (bad:=.inr false) (good:=.inr true)
     (λk w h a _=>by
      have g:(Xx (K2 b) (k:Int)).length=_:=Zqv (k:Int) (Zg (K2 b)) 0;simp only[ZfL,show(k:Int)<((K4 b).length:Int)from by omega,Ui,Zp,h,Bq];rw[ZjI a,Bq,ZlN w _ (JJ j h),Bq,g];constructor
      ·intro r;rw[Uc (ZY r)]
      ·intro r;rw[Ue (λq=>r ((YS _).1 q))])
     (λ_=>by simp only[ZfL,Uf,Uh])]
    congr 1;by_cases r:Zei (K4 b) (λk w=>Zcs w ((Xx (K2 b) (k:Int)).length:Int))
    ·rw[Vh r,ZY r]
    ·rw[QF r,Yq r])
  rw[Kt,List.filter_nil,KZ,Zsi]at this;exact this
 ·unfold ZiV
  grind
structure Z7 (b:Za):Prop where
 ok:ZiV b
 sm:sm Ya b
theorem ZfV (Q:ρ->Prop) {step:τ->Option (τ⊕ρ)} (m:I 0 v)
  (q:∀(k:Nat) (x:α) (v:τ),l[k]?=some x->k<l.length->I k v->∃v',step v=some (.inl v')/\I (k+1) v')
  (a:∀v,I l.length v->∃r,step v=some (.inr r)/\Q r):∃r,ZA step v=some r/\Q r :=
 Zfz l.length I Q m (λk v H h=>.inl (q k l[k] v (Ub H) H h)) a
theorem Zit (m:0<=i) (d:i<(l.length:Int):=by omega):∃x,atI l i=some x/\x∈l:=by
 obtain⟨x,f,g⟩:=Zrw m d;grind
theorem ZAN (h:Ql a d) (l:x∈Zg d):∃n,Zaz d a x=some n:=by
 unfold Zaz;split
 ·exact⟨_,rfl⟩
 ·rename_i g
  unfold Zg at l;rcases Uu.1 l with l|l
  ·obtain⟨i,z,H,T⟩:=XQ.1 l
   unfold YW at T;obtain⟨j,n,b,e⟩:=XQ.1 T;simp only[Ux]at e;subst e;rw[Us]at g;obtain⟨q,⟨c,f,k⟩,_⟩:=h.2.2.1 z (Ud H);have m:=(Ua.1 b).1;simp only[Gt,ZL.pin,Us,Zp,H,Bq];rw[Yr q.1 f,Bq];grind
  ·obtain⟨j,p,b,o⟩:=XQ.1 l
   simp only[Zcd,Ux]at o;grind
variable {y:Int}
theorem ZkS {net:Int} (h:y∈Xx d net):0<=y/\y<((Zg d).length:Int):=by
 obtain⟨k,x,H,i⟩:=XQ.1 h;have:=(Ua.1 H).1;unfold Qu at i;grind
variable {w:Zq} {s x:Int}
theorem Zcs.par (h:Zcs w s) (l:(K8 w)[k]?=some x) (H:0<k):0<=x/\x<=(k:Int)-1:=(h.2.2.2.2.1 k x l).2 H
theorem ZjX (h:Z7 b) (C:(K4 b)[k]?=some w):∃r,Xd b (k:Int)=some r/\r.length=(K8 w).length:=by
 have F:=h.ok.2.2 k w C;have x:=h.ok.1;have f:=x.few;obtain⟨⟨Q,S⟩,lr,U,ls,M,O,N,n⟩:=F;have J:=ZQ f;have K:=ZaN (k:Int) (Zg (K2 b)) 0;have B:(Xx (K2 b) (k:Int)).length<=78:=by unfold Xx;omega
 unfold Xd;rw[Zp,C,Bq];unfold ZN;rw[Zk (by simp;omega),Bq,ZM _ f,Bq,ZbU _ _ f,Bq];refine ZfV (l:=Xx (K2 b) (k:Int)) (λm v=>v.1=(m:Int)/\v.2.1.length=(K8 w).length) _ ⟨rfl,by simp;omega⟩ ?_ ?_
 ·rintro m y ⟨i,l,⟨⟩⟩ D P ⟨d,H⟩
  simp only at d H;subst d;have t:(Gu w)[m]?=some (Gu w)[m]:=Ub (by omega);generalize (Gu w)[m]=z at t;have u:=n z (Ud t);obtain⟨q,e,_⟩:=Zit (l:=l) u.1;obtain⟨s,L⟩:=ZkS (Ud D);obtain⟨p,o,a⟩:=Zit s L;obtain⟨c,G⟩:=ZAN x a;simp only[X4,show(m:Int)<((Xx (K2 b) (k:Int)).length:Int)from by omega,Ui,Zp,D,t,Bq,e,o,G];exact⟨_,rfl,by rw[Y3],by simp[H]⟩
 ·rintro⟨i,l,⟨⟩⟩ ⟨d,H⟩
  simp only at d H;subst d;simp only[X4,Uf,Uh];have:=Zh0 (σ:=Int×List Int×Unit) (ρ:=(Int×List Int×Unit)⊕List Int) (step:=λv=>QJ w v.1 v.2.1) (λv=>(∃j:Nat,v.1=(j:Int)/\j<(K8 w).length)/\v.2.1.length=(K8 w).length) (λv=>v.1.toNat) (λr=>∃R,r=.inr R/\R.length=(K8 w).length) (v:=(Wq ((l.length:Int)-1),l,()))
   ⟨⟨l.length-1,by show Wq _=_;rw[ZlF],by omega⟩,H⟩
   (by
    rintro⟨i,l,⟨⟩⟩ ⟨⟨j,A,I⟩,H⟩;simp only at A H;subst A;simp only[QJ];by_cases E:(0:Int)<(j:Int)
    ·rw[Uc E]
     have g:(K8 w)[j]?=some (K8 w)[j]:=Ub (by omega);generalize (K8 w)[j]=p at g;have a:=(M j p g).2 (by omega);obtain⟨q,e,_⟩:=Zit (l:=l) a.1;have T:l[j]?=some l[j]:=Ub (by omega);simp only[Zp,g,Bq,e,T];left;refine⟨_,rfl,⟨⟨j-1,by rw[ZlF],by omega⟩,by simp[H]⟩,?_⟩;show(Wq ((j:Int)-1)).toNat<((j:Int)).toNat;rw[ZlF];omega
    grind)
  grind
variable {v:Nat}
theorem Zx2 (h:Z7 b) (c:(K4 b)[v]?=some w):Zao b (v:Int)=Xd b (v:Int):=by
 have H:=h.ok.1.few;unfold Zao Xd;rw[Zp,c,Bq,Bq,show Xc (GE w)=ZN (GE w)from rfl,ZP _ H,ZM _ H,Xn _ _ H,ZbU _ _ H];refine UN (Option.bind _) ?_;funext l;rw[Bq,Bq,Bq,Bq];refine UN (λf=>ZA f _) ?_;funext u;obtain⟨i,l,⟨⟩⟩:=u;simp only[ZaS,X4];split
 ·cases atI (Xx (K2 b) (v:Int)) i with
  |none =>
   cases atI (Gu w) i with
   |none=>rfl
   |some z =>
    simp only[Bq,Option.bind_none];cases atI l z<;>rfl
  |some y =>
   cases atI (Gu w) i with
   |none=>rfl
   |some z =>
    simp only[Bq];cases atI l z with
    |none=>rfl
    |some q=>rfl
 ·rfl
def ZnN:List Int->Int
 |[]=>0
 |x::r=>x+ZnN r
theorem Zp3:∀l r:List Int,ZnN (l++r)=ZnN l+ZnN r
 |[],r=>by show ZnN r=0+ZnN r;omega
 |x::l,r=>by
  show x+ZnN (l++r)=x+ZnN l+ZnN r;rw[Zp3 l r];omega
theorem ZsH:∀{l:List Int} {i:Nat} {x:Int} (c:Int),l[i]?=some x->ZnN (l.set i (x+c))=ZnN l+c
 |[],i,x,c,h=>by simp at h
 |y::l,0,x,c,h=>by
  have:y=x:=by simpa using h
  subst this;show y+c+ZnN l=y+ZnN l+c;omega
 |y::l,i+1,x,c,h=>by
  show y+ZnN (l.set i (x+c))=y+ZnN l+c;rw[ZsH c (by simpa using h)];omega
theorem ZsG:∀{l:List Int},(∀x∈l,0<=x)->0<=ZnN l/\∀x∈l,x<=ZnN l
 |[],_=>⟨U6 _,λx H=>by cases H⟩
 |y::l,h=>by
  obtain⟨d,f⟩:=ZsG (l:=l) λx H=>h x (UM _ H);have i:=h y UJ;refine⟨by show 0<=y+ZnN l;omega,λx H=>?_⟩;show x<=y+ZnN l;rcases UD.1 H with rfl|H
  ·omega
  ·have:=f x H;omega
theorem ZAe:∀{l:List Int} {c:Int},(∀x∈l,x<=c)->ZnN l<=(l.length:Int)*c
 |[],c,_=>by show(0:Int)<=((0:Nat):Int)*c;simp
 |y::l,c,h=>by
  have d:=ZAe (l:=l) (c:=c) λx H=>h x (UM _ H);have f:=h y UJ;show y+ZnN l<=((l.length+1:Nat):Int)*c;rw[show((l.length+1:Nat):Int)=(l.length:Int)+1 by omega,Int.add_mul,Int.one_mul];omega
variable {l:List Int}
theorem ZnT {i:Nat} (h:y∈l.set i x):y=x\/y∈l:=(U5 h).symm
theorem Zur (h:Ql a d) {x:Pl} (l:x∈Zg d):∃n,Zaz d a x=some n/\0<=n/\n<=500:=by
 unfold Zaz;split
 ·exact⟨_,rfl,by omega,by omega⟩
 ·rename_i g
  unfold Zg at l;rcases Uu.1 l with l|l
  ·obtain⟨i,z,e,T⟩:=XQ.1 l
   unfold YW at T;obtain⟨j,n,k,m⟩:=XQ.1 T;simp only[Ux]at m;subst m;rw[Us]at g;obtain⟨q,⟨c,f,o⟩,_⟩:=h.2.2.1 z (Ud e);have r:=(Ua.1 k).1;have s:=(h.1.2.1 c (Ud f)).2.1;simp only[Gt,ZL.pin,Us,Zp,e,Bq];rw[Yr q.1 f,Bq];have H:(Gb c)[j]?=some (Gb c)[j]:=Ub (by omega);rw[H,Bq];have b:=(s.2.2.2 j _ H).1;exact⟨_,rfl,b.1,b.2⟩
  ·obtain⟨j,p,k,H⟩:=XQ.1 l
   simp only[Zcd,Ux]at H;subst H;exact absurd (by show(-1:Int)<0;omega) g
theorem Zun (h:Z7 b) (X:(K4 b)[k]?=some w):∃r,Xd b (k:Int)=some r/\r.length=(K8 w).length/\∀x∈r,0<=x/\x<=43000:=by
 have hW:=h.ok.2.2 k w X;have U:=h.ok.1;have F:=U.few;obtain⟨⟨l1,l8⟩,lr,lc,ls,ht,ar,Q,E⟩:=hW;have a2:=ZQ F;have a5:=ZaN (k:Int) (Zg (K2 b)) 0;have W:(Xx (K2 b) (k:Int)).length<=78:=by unfold Xx;omega
 have a0:ZnN (GE w)<=4000:=by
  have:=ZAe (l:=GE w) (c:=500) λx a=>(Q x a).2;omega
 unfold Xd;rw[Zp,X,Bq];unfold ZN;rw[Zk (by simp;omega),Bq,ZM _ F,Bq,ZbU _ _ F,Bq,Uw];refine ZfV (l:=Xx (K2 b) (k:Int)) (λm v=>v.1=(m:Int)/\v.2.1.length=(K8 w).length/\(∀x∈v.2.1,0<=x)/\ZnN v.2.1<=4000+(m:Int)*500) _ ⟨rfl,by simp;omega,λx a=>(Q x a).1,by simp only;omega⟩ ?_ ?_
 ·rintro m y ⟨i,l,⟨⟩⟩ M hm ⟨u,g,d,f⟩
  simp only at u g d f;subst u;have P:(Gu w)[m]?=some (Gu w)[m]:=Ub (by omega);generalize (Gu w)[m]=z at P;have D:=E z (Ud P);obtain⟨q,e,s⟩:=Zit (l:=l) D.1;obtain⟨N,O⟩:=ZkS (Ud M);obtain⟨p,J,o⟩:=Zit N O;obtain⟨c,hc,c0,c5⟩:=Zur U o;have a3:=d q s;have a4:=(ZsG d).2 q s;have t:l[z.toNat]?=some q:=by
   unfold atI at e;rw[Uc D.1]at e;exact e
  simp only[X4,show(m:Int)<((Xx (K2 b) (k:Int)).length:Int)from by omega,Ui,Zp,M,P,Bq,e,J,hc];rw[QR (n:=q+c)];refine⟨_,rfl,by rw[Y3],by simp[g],λx a=>?_,?_⟩
  ·rcases ZnT a with rfl|a
   ·omega
   ·exact d x a
  ·simp only
   rw[ZsH c t];omega
 ·rintro⟨i,l,⟨⟩⟩ ⟨u,g,d,f⟩
  simp only at u g d f;subst u;simp only[X4,Uf,Uh];have hT:ZnN l<=43000:=by omega
  have H:∀x∈l,0<=x/\x<=43000:=λx a=>⟨d x a,by have:=(ZsG d).2 x a;omega⟩;have:=Zh0 (σ:=Int×List Int×Unit) (ρ:=(Int×List Int×Unit)⊕List Int) (step:=λv=>QJ w v.1 v.2.1) (λv=>(∃j:Nat,v.1=(j:Int)/\j<(K8 w).length/\ZnN (v.2.1.take (j+1))<=43000)/\v.2.1.length=(K8 w).length/\∀x∈v.2.1,0<=x/\x<=43000) (λv=>v.1.toNat) (λr=>∃R,r=.inr R/\R.length=(K8 w).length/\∀x∈R,0<=x/\x<=43000) (v:=(Wq ((l.length:Int)-1),l,()))
   ⟨⟨l.length-1,by show Wq _=_;rw[ZlF],by omega,by simp only;rw[KC (by omega)];exact hT⟩,g,H⟩
   (by
    rintro⟨i,l,⟨⟩⟩ ⟨⟨j,V,a1,A⟩,g,H⟩;simp only at V g A H;subst V;simp only[QJ];by_cases S:(0:Int)<(j:Int)
    ·rw[Uc S]
     have G:(K8 w)[j]?=some (K8 w)[j]:=Ub (by omega);generalize (K8 w)[j]=p at G;have o:=(ht j p G).2 (by omega);obtain⟨q,e,s⟩:=Zit (l:=l) o.1;have t:l[p.toNat]?=some q:=by
      unfold atI at e;rw[Uc o.1]at e;exact e
     have T:l[j]?=some l[j]:=Ub (by omega);generalize l[j]=y at T;have M:=H y (Ud T);have hq:=H q s;simp only[Zp,G,Bq,e,T];rw[QR (n:=q+y)];have K:(l.take j)[p.toNat]?=some q:=by rw[UB,QP];exact t
     have I:ZnN ((l.set p.toNat (q+y)).take j)<=43000:=by
      rw[List.take_set,ZsH y K];rw[Xf T,Zp3]at A;have:ZnN [y]=y:=by show y+0=y;omega
      omega
     have C:∀x∈(l.set p.toNat (q+y)).take j,0<=x:=λx a=>by
      rcases ZnT (KJ a)with rfl|a
      ·omega
      ·exact(H x a).1
     have L:q+y<=43000:=by
      have B:q+y∈(l.set p.toNat (q+y)).take j:=by
       refine Ud (i:=p.toNat) ?_;rw[UB,QP,UG (by omega)]
      have:=(ZsG C).2 _ B;omega
     left;refine⟨_,rfl,⟨⟨j-1,by rw[ZlF],by omega,?_⟩,by simp[g],λx a=>?_⟩,?_⟩
     ·simp only
      rw[show j-1+1=j by omega];exact I
     ·rcases ZnT a with rfl|a
      ·exact⟨by omega,L⟩
      ·exact H x a
     ·show(Wq ((j:Int)-1)).toNat<((j:Int)).toNat
      rw[ZlF];omega
    ·rw[Ue S]
     right;exact ⟨_,rfl,_,rfl,g,H⟩)
  obtain⟨r,Y,R,rfl,Z⟩:=this;exact⟨R,Y,Z⟩
variable {a A:Int}
theorem Zhw {b B:Int} (d:0<=a) (f:a<=A) (g:0<=b) (i:b<=B):0<=a*b/\a*b<=A*B :=
 ⟨Int.mul_nonneg d g,Int.mul_le_mul f i g (by omega)⟩
theorem Zqd {p M:Int} (d:-M<=y) (f:y<=M) (g:0<=p:=by omega):-(M*p)<=y*p/\y*p<=M*p:=by
 have a:=Int.mul_le_mul_of_nonneg_right d g;have b:=Int.mul_le_mul_of_nonneg_right f g;rw[Int.neg_mul]at a;exact⟨a,b⟩
def dlF (w:Zq) (ld:List Int):Nat->List Int
 |0=>[0]
 |m+1=>dlF w ld m++[((dlF w ld m)[(((K8 w)[m+1]?).getD 0).toNat]?).getD 0+(((GB w)[m+1]?).getD 0)*((ld[m+1]?).getD 0)]
theorem Zl3 (w:Zq) (ld:List Int):∀m,(dlF w ld m).length=m+1
 |0=>rfl
 |m+1=>by show(dlF w ld m++[_]).length=_;rw[Ug,Zl3 w ld m];rfl
theorem Zvs {o H:Int} (h:∀x∈l,o<=x/\x<=H) (d:o<=0) (f:0<=H) (i:Nat):o<=(l[i]?).getD 0/\(l[i]?).getD 0<=H:=by
 cases e:l[i]? with
 |none=>exact⟨d,f⟩
 |some x=>exact h x (Ud e)
theorem Zzr {w:Zq} {ld:List Int} (F:∀x∈GB w,0<=x/\x<=1000) (q:∀x∈ld,0<=x/\x<=43000):∀m,∀x∈dlF w ld m,0<=x/\x<=(m:Int)*43000000
 |0,x,l=>by
  have:x=0:=by simpa[dlF]using l
  subst this;omega
 |m+1,x,l=>by
  have R:=Zzr F q m;rcases Uu.1 (show x∈dlF w ld m++[_]from l)with l|l
  ·have:=R x l;omega
  ·rw[Ux.1 l]
   have a:=Zvs R (by omega) (by omega) (((K8 w)[m+1]?).getD 0).toNat;have b:=Zvs F (by omega) (by omega) (m+1);have c:=Zvs q (by omega) (by omega) (m+1);have d:=Zhw b.1 b.2 c.1 c.2;omega
structure Zu5 (b:Za) (k:Nat) (w:Zq) (ld:List Int):Prop where
 wire:(K4 b)[k]?=some w
 n1:1<=(K8 w).length
 n8:(K8 w).length<=8
 nr:(GB w).length=(K8 w).length
 nl:ld.length=(K8 w).length
 par:∀(m:Nat),m+1<(K8 w).length->∃p,(K8 w)[m+1]?=some p/\0<=p/\p<=(m:Int)
 res:∀x∈GB w,0<=x/\x<=1000
 lds:∀x∈ld,0<=x/\x<=43000
 snk:∀x∈Gu w,0<=x/\x<=((K8 w).length:Int)-1
 few:(Gu w).length<=1048576
 prog:Xd b (k:Int)=some ld
 ref:Zao b (k:Int)=some ld
theorem ZHX (h:Z7 b) (c:(K4 b)[k]?=some w):∃ld,Zu5 b k w ld:=by
 have F:=h.ok.2.2 k w c;obtain⟨⟨L,S⟩,lr,U,ls,r,O,N,n⟩:=F;obtain⟨nl,l,H,d⟩:=Zun h c;have V:=Zv (Zk1 (JJ (Vi h.sm).2.2 c)).2.2.2;refine⟨nl,c,L,S,lr,H,λm R=>?_,O,d,n,by omega,l,by rw[Zx2 h c,l]⟩;have g:(K8 w)[m+1]?=some ((K8 w)[m+1]'R):=Ub _;have:=(r (m+1) _ g).2 (by omega);exact⟨_,g,this.1,by omega⟩
def ndl (w:Zq) (ld:List Int):List Int:=dlF w ld ((K8 w).length-1)
variable {ld:List Int}
theorem Zu5.len (h:Zu5 b k w ld):(ndl w ld).length=(K8 w).length:=by
 have:=h.n1;unfold ndl;rw[Zl3];omega
theorem Zu5.bd (h:Zu5 b k w ld):∀x∈ndl w ld,0<=x/\x<=301000000:=λx l=>by
 have:=Zzr h.res h.lds _ x l;have:=h.n1;have:=h.n8;omega
theorem Zu5.step (h:Zu5 b k w ld) (R:m+1<(K8 w).length) :
  ∃p r l q,(K8 w)[m+1]?=some p/\(GB w)[m+1]?=some r/\ld[m+1]?=some l/\0<=p/\p<=(m:Int)/\(dlF w ld m)[p.toNat]?=some q/\Wq (q+Wq (r*l))=q+r*l/\dlF w ld (m+1)=dlF w ld m++[q+r*l]:=by
 obtain⟨p,g,p0,p1⟩:=h.par m R;have F:(GB w)[m+1]?=some ((GB w)[m+1]'(by have:=h.nr;omega)):=Ub _;have H:ld[m+1]?=some (ld[m+1]'(by have:=h.nl;omega)):=Ub _;have a:(dlF w ld m)[p.toNat]?=some ((dlF w ld m)[p.toNat]'(by rw[Zl3];omega)):=Ub _;have U:=h.res _ (Ud F);have W:=h.lds _ (Ud H);have X:=Zzr h.res h.lds m _ (Ud a);generalize (GB w)[m+1]'(by have:=h.nr;omega)=r at *;generalize ld[m+1]'(by have:=h.nl;omega)=l at *;generalize (dlF w ld m)[p.toNat]'(by rw[Zl3];omega)=q at *;have Y:=Zhw U.1 U.2 W.1 W.2;have:=h.n8;refine⟨p,r,l,q,g,F,H,p0,p1,a,by rw[QR (n:=r*l),QR],?_⟩;show dlF w ld m++[_]=_;rw[g,F,H];simp only[UX];rw[a];rfl
theorem Zmk (h:Zu5 b k w ld):Zat b (k:Int)=some (ndl w ld):=by
 have n:=h.nl;have H:=h.n1;have g:=h.n8;unfold Zat;rw[Zp,h.wire,Bq,h.ref,Bq];refine XJ ((K8 w).length-1) (λm v=>v=(dlF w ld m,((m+1:Nat):Int),())) _ rfl ?_ ?_
 ·rintro m _ R rfl
  obtain⟨p,r,l,q,E,i,a,p0,p1,f,c,d⟩:=h.step (m:=m) (by omega);have e:atI (dlF w ld m) p=some q:=Yr p0 f;simp only[Zet,show((m+1:Nat):Int)<(ld.length:Int)from by omega,Ui,Zp,E,i,a,e,Bq,c];rw[Zk (by rw[Zl3];simp only[Um,Uo];omega),Y3];exact .inl ⟨_,rfl,by rw[d]⟩
 ·rintro _ rfl
  simp only[Zet,show ¬(((K8 w).length-1+1:Nat):Int)<(ld.length:Int)from by omega,Uh];rfl
theorem Zvu (h:Zu5 b k w ld):Vl b (k:Int)=some (ndl w ld):=by
 have H:=h.nl;have j:=h.n1;have o:=h.n8;unfold Vl;rw[Zp,h.wire,Bq,h.prog,Bq,Ra,Ra,Ra,Ra];refine XJ ((K8 w).length-1) (λm v=>v=(((m+1:Nat):Int),dlF w ld m++List.replicate ((K8 w).length-1-m) (0:Int),())) _ ?_ ?_ ?_
 ·rw[Up,H]
  simp only[Prod.mk.injEq,and_true];refine⟨rfl,?_⟩;show List.replicate (K8 w).length (0:Int)=[0]++List.replicate ((K8 w).length-1-0) 0;rw[show(K8 w).length=((K8 w).length-1)+1 by omega,KB];simp
 ·rintro m _ R rfl
  obtain⟨p,r,l,q,E,i,a,p0,p1,f,c,d⟩:=h.step (m:=m) (by omega);have n:=Zl3 w ld m;have e:atI (dlF w ld m++List.replicate ((K8 w).length-1-m) (0:Int)) p=some q:=Yr p0 (by rw[Ut (by omega)];exact f);have g:(dlF w ld m++List.replicate ((K8 w).length-1-m) (0:Int))[m+1]?=some 0:=by
   rw[UE (by omega),n,Kb,QP]
  have T:(dlF w ld m++List.replicate ((K8 w).length-1-m) (0:Int)).length=(K8 w).length:=by
   rw[Ug,UQ];omega
  simp only[Qs,T,show((m+1:Nat):Int)<((K8 w).length:Int)from by omega,Ui,Zp,E,i,a,e,g,Bq,c];rw[Y3];refine .inl ⟨_,rfl,?_⟩;simp only[Prod.mk.injEq,and_true,true_and,Up];rw[d,List.set_append_right _ _ (by omega),n,show(K8 w).length-1-m=((K8 w).length-1-(m+1))+1 by omega,KB,Nat.sub_self,List.set_cons_zero,Uj];rfl
 ·rintro _ rfl
  have T:(dlF w ld ((K8 w).length-1)++List.replicate ((K8 w).length-1-((K8 w).length-1)) (0:Int)).length=(K8 w).length:=by
   rw[Ug,UQ,Zl3];omega
  simp only[Qs,T,show ¬(((K8 w).length-1+1:Nat):Int)<((K8 w).length:Int)from by omega,Uh];rw[Nat.sub_self,List.replicate_zero,Un];rfl
theorem ZDT {l:List Int} (h:Inc l) {i:Nat} {x:Int} (a:l[i]?=some x):∀(m:Nat) (y:Int),l[i+m+1]?=some y->x<y
 |0,y,H=>h i x y a H
 |m+1,y,H=>by
  have q:=(Ua.1 H).1;have T:l[i+m+1]?=some (l[i+m+1]'(by omega)):=Ub _;have d:=ZDT h a m _ T;have f:=h (i+m+1) _ y T H;omega
theorem Zl7 (h:Inc l) {i:Nat} (Z:i<j) (H:l[i]?=some x) (a:l[j]?=some y):x<y :=
 ZDT h H (j-i-1) y (by grind)
def On (l:List Int) (x:Int) (j:Nat):Prop:=l[j]?=some x
def Btw (l:List Int) (x:Int) (j:Nat) (y z:Int):Prop:=l[j]?=some y/\l[j+1]?=some z/\y<x/\x<z
variable {c:Int}
theorem ZG0 (m:l[0]?=some a) (d:l[l.length-1]?=some c) (h:a<=x) (H:x<=c):(∃j,On l x j)\/∃j y z,Btw l x j y z:=by
 have K:∀(k:Nat) (y:Int),l[k]?=some y->y<=x\/((∃j,On l x j)\/∃j y z,Btw l x j y z):=by
  intro k;induction k with
  |zero =>
   grind
  |succ k I =>
   intro y i;have b:=(Ua.1 i).1;have T:l[k]?=some (l[k]'(by omega)):=Ub _;rcases I _ T with q|q
   ·by_cases w:y<=x
    ·exact .inl w
    ·right
     by_cases e:l[k]'(by omega)=x
     ·exact .inl ⟨k,by unfold On;rw[T,e]⟩
     ·exact .inr ⟨k,_,y,T,i,by omega,by omega⟩
   ·exact .inr q
 rcases K _ c d with q|q
 ·exact .inl ⟨l.length-1,by unfold On;grind⟩
 ·exact q
structure Fst (l:List Int) (x:Int) (p:Nat):Prop where
 le:p<=l.length
 low:∀(i:Nat) (y:Int),i<p->l[i]?=some y->y<x
 up:∀(i:Nat) (y:Int),p<=i->l[i]?=some y->x<=y
theorem Fst.on {p:Nat} (h:Fst l x p) (i:Inc l) (b:On l x j):p=j:=by
 have W:=(Ua.1 b).1;rcases KK p j with q|q|q
 ·have g:l[p]?=some (l[p]'(by omega)):=Ub _
  have d:=Zl7 i q g b;have f:=h.up p _ (UO _) g;omega
 ·exact q
 ·have:=h.low j x q b
  omega
theorem Fst.btw {p:Nat} {z:Int} (h:Fst l x p) (H:Inc l) (b:Btw l x j y z):p=j+1:=by
 obtain⟨d,f,g,i⟩:=b;have W:=(Ua.1 f).1;rcases KK p (j+1)with q|q|q
 ·have:=h.up j y (by omega) d
  omega
 ·exact q
 ·have:=h.low (j+1) z q f
  omega
theorem ZBW (g:Inc l) {step:Int×Int×Unit->Option ((Int×Int×Unit)⊕ρ)} {good:Nat->ρ}
  (m:∀(i j:Nat) (y:Int),i<j->j<=l.length->l[(i+j)/2]?=some y->step ((i:Int),(j:Int),())=some (.inl (if y<x then(((i+j)/2+1:Nat):Int)else(i:Int),if y<x then(j:Int)else(((i+j)/2:Nat):Int),())))
  (n:∀i:Nat,i<=l.length->step ((i:Int),(i:Int),())=some (.inr (good i))):∃p,Fst l x p/\ZA step ((0:Int),(l.length:Int),())=some (good p):=by
 obtain⟨r,e,p,rfl,o⟩:=Zh0 (step:=step) (v:=((0:Int),(l.length:Int),())) (λv=>∃i j:Nat,v=((i:Int),(j:Int),())/\i<=j/\j<=l.length/\(∀(k:Nat) (y:Int),k<i->l[k]?=some y->y<x)/\∀(k:Nat) (y:Int),j<=k->l[k]?=some y->x<=y) (λv=>(v.2.1-v.1).toNat) (λr=>∃p,r=good p/\Fst l x p)
  ⟨0,l.length,rfl,by omega,UO _,λk y f=>by omega,λk y f a=>by grind⟩ (by
   rintro _ ⟨i,j,rfl,Z,b,h,H⟩;by_cases c:i<j
   ·left
    have a:l[(i+j)/2]?=some (l[(i+j)/2]'(by omega)):=Ub _;generalize l[(i+j)/2]'(by omega)=y at a;refine⟨_,m i j y c b a,?_,?_⟩
    ·by_cases d:y<x
     ·refine⟨(i+j)/2+1,j,by grind,by omega,b,λk z f T=>?_,H⟩
      by_cases w:k=(i+j)/2
      ·grind
      ·have:=Zl7 g (by omega) T a;omega
     ·refine⟨i,(i+j)/2,by grind,by omega,by omega,h,λk z f T=>?_⟩
      by_cases w:k=(i+j)/2
      ·grind
      ·have:=Zl7 g (by omega) a T;omega
    ·by_cases d:y<x
     ·rw[Uc d,Uc d];simp only;omega
     ·rw[Ue d,Ue d];simp only;omega
   ·right
    have:i=j:=by omega
    subst this;exact ⟨_,n i b,i,rfl,b,h,H⟩)
 exact⟨p,o,e⟩
structure ZHo (l:List Int) (j a b:Int):Prop where
 j0:0<=j
 jl:j<l.length
 jb:0<b->j+1<l.length
 a0:0<a
 b0:0<=b
 ab:a+b<=100000
def wl (j a b:Int):List Zdd:=if b=0 then[(j,a,())]else[(j,a,()),(j+1,b,())]
theorem ZEJ {i:Nat} (h:i+j<=100):Wq (Int.fdiv (IntKind.wrap IntKind.u64 (Wq ((i:Int)+(j:Int)))) ((2:Int)^Min.min (Int.toNat (1:Int)) (IntKind.bits IntKind.u64)))=(((i+j)/2:Nat):Int):=by
 rw[QR (n:=(i:Int)+(j:Int)),show IntKind.wrap IntKind.u64 ((i:Int)+(j:Int))=(i:Int)+(j:Int)from IntWalk.u64_in _ (by omega),show((2:Int)^Min.min (Int.toNat (1:Int)) (IntKind.bits IntKind.u64))=2 from by decide,Int.fdiv_eq_ediv_of_nonneg _ (by omega),QR];omega
variable (x:Int)
theorem ZES (y:Int):ZgP x y=some (decide (x<y)):=by
 unfold ZgP ZfD;rw[Bq,UU (show x=x from rfl)];rfl
theorem ZGR:Zbv x=some false:=by
 unfold Zbv;rw[UU (show x=x from rfl)];rfl
theorem ZA4 (H:Inc l) (q:l.length<=4) (x:Int):∃p,Fst l x p/\Qr l x=some ((p:Int),decide (l[p]?=some x)):=by
 unfold Qr;refine ZBW (x:=x) (good:=λp=>((p:Int),decide (l[p]?=some x))) H (λi j y Z b h=>?_) (λi H=>?_)
 ·simp only[QG,show(i:Int)<(j:Int)from by omega,Ui,ZEJ (show i+j<=100 by omega),Zp,h,Bq,ZES,Ul,Y3 (show(i+j)/2<=1048576 by omega)]
  by_cases c:y<x
  ·rw[Uc c,Uc c,Uc c]
  ·rw[Ue c,Ue c,Ue c]
 ·simp only[QG,Uf,Uh]
  by_cases c:i<l.length
  ·have h:l[i]?=some l[i]:=Ub c
   generalize l[i]=y at h;rw[Uc (show(i:Int)<(l.length:Int) by omega),Zp,h,Bq];by_cases e:y=x
   ·rw[Uc e,UU (by rw[e])]
   ·rw[Ue e,ZGR,Bq,Ue (by simp),decide_eq_false (by rw[Option.some.injEq];exact e)]
  ·rw[Ue (show ¬(i:Int)<(l.length:Int) by omega),UA (by omega)]
   rfl
theorem Zlr (h:Zht l) (x:Int):∃j a b,ZHo l j a b/\ZdO l x=some (j,a,b)/\Zha l x=some (wl j a b,a+b):=by
 obtain⟨Y,S,C,o⟩:=h;have m:l[0]?=some (l[0]'(by omega)):=Ub _;have f:l[l.length-1]?=some (l[l.length-1]'(by omega)):=Ub _;generalize l[0]'(by omega)=X at m;generalize l[l.length-1]'(by omega)=d at f;have P:X<=d:=by
  by_cases q:l.length=1
  ·rw[q]at f
   rw[m]at f;injection f with f
   omega
  ·have:=Zl7 o (show 0<l.length-1 by omega) m f
   omega
 have bd:∀{j:Nat} {y:Int},l[j]?=some y->0<=y/\y<=100000:=λ{j y} A=>C y (Ud A);have U:=bd m;have V:=bd f;have a0:atI l 0=some X:=Yr (U6 _) m;have L:atI l (Wq ((↑(List.length l):Int)-(1:Int)))=some d:=by
  rw[QR];exact Yr (by omega) (by rw[<-f];congr 1;omega)
 unfold ZdO Zha;simp only[a0,L,Bq];have t:X<=Min.min (Max.max x X) d:=by omega
 have u:Min.min (Max.max x X) d<=d:=by omega
 have N:∀(i:Int),Zby l x X d i=if(0:Int)<=i then
   (atI l i).bind λG =>
   if Min.min (Max.max x X) d=G then
    some (.inr (i,(1:Int),(0:Int)))
   else
    if G<Min.min (Max.max x X) d then
     (atI l (Wq (i+(1:Int)))).bind λT =>
     some (.inr (i,Wq (T-Min.min (Max.max x X) d),Wq (Min.min (Max.max x X) d-G)))
    else
     some (.inl (Wq (i-(1:Int)),()))
  else
   some (.inr ((0:Int),(1:Int),(0:Int))):=λi=>rfl
 generalize Min.min (Max.max x X) d=c at t u N ⊢;obtain⟨p,K,R⟩:=ZA4 o S c;rw[R,Bq];rcases ZG0 m f t u with⟨j,e⟩|⟨j,y,z,e⟩
 ·have W:=(Ua.1 e).1
  have g:=K.on o e;subst g;refine⟨(p:Int),1,0,⟨by omega,by omega,λq=>by omega,by omega,by omega,by omega⟩,?_,?_⟩
  ·have k:∀(r:Nat),p+r<l.length->ZA (λv=>Zby l x X d v.1) (((p+r:Nat):Int),())=some ((p:Int),(1:Int),(0:Int)):=by
    intro r;induction r with
    |zero =>
     intro F;refine Y1 ?_;simp only[N,U7,show(0:Int)<=(p:Int)from by omega,Ui,Zp];rw[e,Bq,Uc rfl]
    |succ r I =>
     intro F;have A:l[p+(r+1)]?=some (l[p+(r+1)]'F):=Ub _;generalize l[p+(r+1)]'F=y at A;have D:=Zl7 o (show p<p+(r+1) by omega) e A;refine(Xk ?_).trans (I (by omega));simp only[N,show(0:Int)<=((p+(r+1):Nat):Int)from by omega,Ui,Zp,A,Bq];rw[QQ,QQ,QR,show((p+(r+1):Nat):Int)-1=((p+r:Nat):Int) by omega]
   have:=k (l.length-1-p) (by omega);rw[show p+(l.length-1-p)=l.length-1 by omega]at this;rw[QR,show(l.length:Int)-1=((l.length-1:Nat):Int) by omega];exact this
  ·rw[Uc (UU (show l[p]?=some c from e))]
   rfl
 ·obtain⟨B,H,J,Q⟩:=e
  have W:=(Ua.1 H).1;have g:=K.btw o ⟨B,H,J,Q⟩;subst g;have M:=bd B;have O:=bd H;have E:¬l[j+1]?=some c:=λq=>by rw[H]at q;injection q with q;omega
  refine⟨(j:Int),z-c,c-y,⟨by omega,by omega,λq=>by omega,by omega,by omega,by omega⟩,?_,?_⟩
  ·have k:∀(r:Nat),j+r<l.length->ZA (λv=>Zby l x X d v.1) (((j+r:Nat):Int),())=some ((j:Int),z-c,c-y):=by
    intro r;induction r with
    |zero =>
     intro F;refine Y1 ?_;simp only[N,U7,show(0:Int)<=(j:Int)from by omega,Ui,Zp];rw[B,Bq,QQ,Uc J,Y3 (show j<=1048576 by omega),Zp,H,Bq,QR,QR]
    |succ r I =>
     intro F;have s:l[j+(r+1)]?=some (l[j+(r+1)]'F):=Ub _;generalize l[j+(r+1)]'F=w at s;have D:z<=w:=by
      by_cases q:r=0
      ·subst q;rw[H]at s;injection s with s;omega
      ·have:=Zl7 o (show j+1<j+(r+1) by omega) H s;omega
     refine(Xk ?_).trans (I (by omega));simp only[N,show(0:Int)<=((j+(r+1):Nat):Int)from by omega,Ui,Zp,s,Bq];rw[QQ,QQ,QR,show((j+(r+1):Nat):Int)-1=((j+r:Nat):Int) by omega]
   have:=k (l.length-1-j) (by omega);rw[show j+(l.length-1-j)=l.length-1 by omega]at this;rw[QR,show(l.length:Int)-1=((l.length-1:Nat):Int) by omega];exact this
  ·rw[Ue (by rw[Ul];exact E),Zp,H,Bq,QR (n:=((j+1:Nat):Int)-1),show((j+1:Nat):Int)-1=(j:Int) by omega,Zp,B,Bq,QR,QR,QR]
   unfold wl;rw[QQ];simp only[Option.some.injEq,Prod.mk.injEq];refine⟨?_,by omega⟩;rw[show((j+1:Nat):Int)=(j:Int)+1 by omega]
theorem ZjL (a b m:Int):ZdE a b m=Yx a b m:=by
 unfold ZdE Yx;grind
theorem Zsn {b m:Int} (H:0<b) (j:-4000000000000000000<=a) (i:a<=4000000000000000000) (R:m=0\/m=1):∃r,Yx a b m=some r/\∀M:Int,0<=M->M*b<=4000000000000000000->(a<=M*b->r<=M)/\(-(M*b)<=a->-M<=r)/\(0<=a->0<=r):=by
 have e:=Int.mul_tdiv_add_tmod a b;have k:=Kq a H;have l:=Int.lt_tmod_of_pos a H;have up:∀M:Int,a<=M*b->Int.tdiv a b<=M/\(0<Int.tmod a b->Int.tdiv a b+1<=M):=λM h=>by
  constructor
  ·refine US λq=>?_
   have:=KL (show M+1<=Int.tdiv a b by omega) (show 0<=b by omega);grind
  ·intro f
   refine US λq=>?_;have:=KL (show M<=Int.tdiv a b by omega) (show 0<=b by omega);grind
 have o:∀M:Int,-(M*b)<=a->-M<=Int.tdiv a b/\(Int.tmod a b<0->-M<=Int.tdiv a b-1):=λM h=>by
  constructor
  ·refine US λq=>?_
   have:=KL (show Int.tdiv a b<=-(M+1) by omega) (show 0<=b by omega);grind
  ·intro f
   refine US λq=>?_;have:=KL (show Int.tdiv a b<=-M by omega) (show 0<=b by omega);grind
 have B:Int.tdiv a b<=4000000000000000000/\-4000000000000000000<=Int.tdiv a b:=by
  have d:(4000000000000000000:Int)<=4000000000000000000*b:=by omega
  have:=up 4000000000000000000 (by omega);have:=o 4000000000000000000 (by omega);omega
 have N:0<=a->0<=Int.tdiv a b/\¬Int.tmod a b<0:=λh=>by
  have:=Kx b h;have:=Int.tdiv_nonneg h (show 0<=b by omega);omega
 unfold Yx;rw[Ra,QR (n:=Int.tdiv a b)];by_cases d:Int.tmod a b<0
 ·rw[Uc d]
  by_cases g:m=0
  ·rw[Uc g,QR]
   grind
  ·rw[Ue g,Ue (show ¬(0:Int)<Int.tmod a b by omega)]
   grind
 ·rw[Ue d]
  by_cases f:(0:Int)<Int.tmod a b
  ·rw[Uc f]
   by_cases c:m=1
   ·rw[Uc c,QR]
    grind
   simp_all
  ·rw[Ue f]
   grind
def Zns (t:ZE) (i k:Int):Int:=(atI (Gz t) (i*((GA t).length:Int)+k)).getD 0
def tm (t:ZE) (i k a c:Int):Int:=if 0<a*c then Zns t i k*(a*c)else 0
variable {k:Int}
theorem Ztn (h:Zah t) (I:0<=i) (j:i<(GS t).length) (K:0<=k) (m:k<(GA t).length) :
  atI (Gz t) (i*((GA t).length:Int)+k)=some (Zns t i k)/\(-1000000<=Zns t i k/\Zns t i k<=1000000)/\0<=i*((GA t).length:Int)/\i*((GA t).length:Int)<=16:=by
 obtain⟨d,f,g,a⟩:=h;have b:=Zhw I (show i<=4 by have:=d.2.1;omega) (show(0:Int)<=((GA t).length:Int) by omega) (show((GA t).length:Int)<=4 by have:=f.2.1;omega);have H:i*((GA t).length:Int)+k<(Gz t).length:=by
  have e:=Int.mul_le_mul_of_nonneg_right (show i+1<=((GS t).length:Int) by omega) (show(0:Int)<=((GA t).length:Int) by omega);grind
 obtain⟨x,c,J⟩:=Zrw (l:=Gz t) (i:=i*((GA t).length:Int)+k) (by omega) H;have R:=a x (Ud J);have e:Zns t i k=x:=by unfold Zns;rw[c];rfl
 grind
theorem ZqL (h:Zah t) (l:0<a->0<=i/\i<(GS t).length) (b:0<c->0<=k/\k<(GA t).length) (a0:0<=a:=by omega) (c0:0<=c:=by omega):-(1000000*(a*c))<=tm t i k a c/\tm t i k a c<=1000000*(a*c):=by
 unfold tm;by_cases q:0<a*c
 ·rw[Uc q]
  have n:0<a:=by
   grind
  have H:0<c:=by
   grind
  obtain⟨_,⟨U,W⟩,_⟩:=Ztn h (l n).1 (l n).2 (b H).1 (b H).2;exact Zqd U W
 ·rw[Ue q]
  have:=Int.mul_nonneg a0 c0;omega
theorem ZFQ:tm t i k a 0=0:=by unfold tm;grind
theorem Zxy:tm t i k 0 c=0:=by unfold tm;grind
def ZqO (t:ZE) (j a b k c d:Int):Int:=tm t j k a c+tm t j (k+1) a d+(tm t (j+1) k b c+tm t (j+1) (k+1) b d)
variable {w:List Zdd×Int} {v1:Int}
theorem ZpY (h:Zah t) {v3:Int} (I:0<=i) (j:i<(GS t).length) (A0:0<A) (A1:A<=100000) (H:atI w.1 v3=some (k,c,())) (a:v3<w.1.length) (m:v3<=10) (D:0<=v3) (K:0<=k) (d:k<(GA t).length) (c0:0<c:=by omega) (c1:c<=100000:=by omega) (b:-100000000000000000<=s:=by omega) (f:s<=100000000000000000:=by omega) :
  Qy t w v1 (i,A,()) s v3=some (.inl (s+tm t i k A c,v3+1,())):=by
 obtain⟨l,⟨U,W⟩,X,Y⟩:=Ztn h I j K d;have S:=h.2.1.2.1;have p:=Zhw (show 0<=A by omega) A1 (show 0<=c by omega) c1;have P:0<A*c:=Int.mul_pos A0 c0;have q:=Zqd U W (show 0<=A*c by omega);have Q:=Zqd U W (show 0<=A by omega);have e:tm t i k A c=Zns t i k*(A*c):=by unfold tm;rw[Uc P]
 simp only[Qy,Uc a,H,Bq];show(atI (Gz t) (Wq (Wq (i*((GA t).length:Int))+k))).bind _=_;rw[QR (n:=i*((GA t).length:Int)),QR (n:=i*((GA t).length:Int)+k),l,Bq];show some (Sum.inl (Wq (s+Wq (Wq (Zns t i k*A)*c)),Wq (v3+1),()))=_;rw[QR (n:=Zns t i k*A),Int.mul_assoc,QR (n:=Zns t i k*(A*c)),QR (n:=s+Zns t i k*(A*c)),QR (n:=v3+1),e]
theorem ZwN {v3:Int} {x:Zdd} (a:v3=w.1.length):Qy t w v1 x s v3=some (.inr (.inl (s,Wq (v1+1),()))):=by
 simp only[Qy,Ue (show ¬v3<(w.1.length:Int) by omega)]
theorem ZwO (h:Zah t) {d:Int} (H:w.1=wl k c d) (e:ZHo (GA t) k c d) (I:0<=i) (j:i<(GS t).length) (A0:0<A:=by omega) (A1:A<=100000:=by omega) (S:-50000000000000000<=s:=by omega) (m:s<=50000000000000000:=by omega) :
  ZA (λv=>Qy t w v1 (i,A,()) v.1 v.2.1) (s,(0:Int),())=some (.inl (s+(tm t i k A c+tm t i (k+1) A d),Wq (v1+1),())):=by
 have g:=e.ab;have L:=e.a0;have l:=e.b0;have b:=e.j0;have W:=e.jl;have p:=Zhw (show 0<=A by omega) A1 (show 0<=c by omega) (show c<=100000 by omega);have q:=ZqL h (i:=i) (k:=k) (a:=A) (c:=c) (λ_=>⟨I,j⟩) (λ_=>⟨b,W⟩);unfold wl at H;by_cases N:d=0
 ·rw[Uc N]at H
  subst N;refine(Xk (v':=(s+tm t i k A c,(1:Int),())) ?_).trans (Y1 ?_)
  ·exact ZpY (s:=s) (v3:=0) h I j A0 A1 (by rw[H];rfl) (by grind) (by omega) (by omega) b W L
  ·rw[ZFQ,K1]
   exact ZwN (by rw[H];rfl)
 ·rw[Ue N]at H
  have f:=e.jb (by omega);refine(Xk (v':=(s+tm t i k A c,(1:Int),())) ?_).trans ((Xk (v':=(s+tm t i k A c+tm t i (k+1) A d,(2:Int),())) ?_).trans (Y1 ?_))
  ·exact ZpY (s:=s) (v3:=0) h I j A0 A1 (by rw[H];rfl) (by grind) (by omega) (by omega) b W L
  ·exact ZpY (s:=s+tm t i k A c) (v3:=1) h I j A0 A1 (by rw[H];rfl) (by grind) (by omega) (by omega) (by omega) f
  ·rw[<-Int.add_assoc]
   exact ZwN (by rw[H];rfl)
theorem ZuH (h:Zah t) {j:Int} {v3 W1:Int} (g:v1=0\/v1=1) (l:v3=0\/v3=1) (m:0<=j) (H:0<a->j+v1<(GS t).length) (f:j<=4) (o:0<=k) (e:0<c->k+v3<(GA t).length) (a0:0<=a) (A:a<=100000) (c0:0<=c:=by omega) (c1:c<=100000:=by omega) (r:-100000000000000000<=s:=by omega) (u:s<=100000000000000000:=by omega) :
  (if (0:Int)<Wq (a*c) then
     (atI (Gz t) (Wq (Wq (Wq (Wq (j+v1)*(↑(List.length (GA t)):Int))+k)+v3))).bind λX =>
     some (Sum.inl (Wq (s+Wq (Wq (a*c)*X)),Wq (v3+(1:Int)),()))
    else
     some (.inl (s,Wq (v3+(1:Int)),())):Option ((Int×Int×Unit) ⊕ ((Int×Int×Unit) ⊕ Int)))=some (.inl (s+tm t (j+v1) (k+v3) a c,v3+1,())):=by
 have p:=Zhw a0 A c0 c1;rw[QR (n:=a*c),QR (n:=v3+1)];by_cases P:0<a*c
 ·have d:0<a:=by
   grind
  have b:0<c:=by
   grind
  obtain⟨x,⟨U,W⟩,B,Y⟩:=Ztn h (i:=j+v1) (k:=k+v3) (by omega) (H d) (by omega) (e b);have S:=h.2.1.2.1;have K:=e b;have q:=Zqd U W (show 0<=a*c by omega);rw[Uc P,QR (n:=j+v1),QR (n:=(j+v1)*((GA t).length:Int)),QR (n:=(j+v1)*((GA t).length:Int)+k),Int.add_assoc,QR (n:=(j+v1)*((GA t).length:Int)+(k+v3)),x,Bq];unfold tm;rw[Uc P,Int.mul_comm (a*c),QR (n:=Zns t (j+v1) (k+v3)*(a*c)),QR]
 ·rw[Ue P]
  unfold tm;grind
theorem Zpk (h:Zah t) {j b d:Int} (H:ZHo (GS t) j a b) (f:ZHo (GA t) k c d) (l:v1=0/\A=a\/v1=1/\A=b) (C:-50000000000000000<=s:=by omega) (D:s<=50000000000000000:=by omega) :
  ZA (λv=>QW t (j,a,b) (k,c,d) v1 v.1 v.2.1) (s,(0:Int),())=some (.inl (s+(tm t (j+v1) k A c+tm t (j+v1) (k+1) A d),Wq (v1+1),())):=by
 have r:=H.ab;have u:=H.a0;have w:=H.b0;have J:=H.j0;have x:=H.jl;have m:=H.jb;have y:=f.ab;have B:=f.a0;have R:=f.b0;have o:=f.j0;have n:=f.jl;have K:=f.jb;have S:=h.1.2.1;have A0:0<=A/\A<=100000/\(0<A->j+v1<(GS t).length)/\0<=j+v1:=by
  rcases l with⟨rfl,rfl⟩|⟨rfl,rfl⟩
  ·exact⟨by omega,by omega,λ_=>by omega,by omega⟩
  ·exact⟨by omega,by omega,λq=>m q,by omega⟩
 obtain⟨A1,A2,A3,A4⟩:=A0;have p:=Zhw A1 A2 (show 0<=c by omega) (show c<=100000 by omega);have q:=ZqL h (i:=j+v1) (k:=k) (a:=A) (c:=c) (λz=>⟨A4,A3 z⟩) (λ_=>⟨o,n⟩) A1;have P:=Zhw A1 A2 (show 0<=d by omega) (show d<=100000 by omega);have Q:=ZqL h (i:=j+v1) (k:=k+1) (a:=A) (c:=d) (λz=>⟨A4,A3 z⟩) (λz=>⟨by omega,K z⟩) A1;have g:v1=0\/v1=1:=by omega
 refine(Xk (v':=(s+tm t (j+v1) (k+0) A c,0+1,())) ?_).trans ((Xk (v':=(s+tm t (j+v1) (k+0) A c+tm t (j+v1) (k+1) A d,1+1,())) ?_).trans (Y1 ?_))
 ·have e:=ZuH h (v1:=v1) (v3:=0) (s:=s) (W1:=0) (a:=A) (c:=c) g (.inl rfl) J A3 (by omega) o (λ_=>by omega) A1 A2
  show QW t (j,a,b) (k,c,d) v1 s 0=_;unfold QW;rw[Uc (by decide)];rcases l with⟨rfl,rfl⟩|⟨rfl,rfl⟩
  ·rw[Ue (by decide),Uc rfl];exact e
  ·rw[Uc rfl,Uc rfl];exact e
 ·rw[K1]
  have e:=ZuH h (v1:=v1) (v3:=1) (s:=s+tm t (j+v1) k A c) (W1:=0) (a:=A) (c:=d) g (.inr rfl) J A3 (by omega) o (λz=>K z) A1 A2;show QW t (j,a,b) (k,c,d) v1 (s+tm t (j+v1) k A c) 1=_;unfold QW;rw[Uc (by decide)];rcases l with⟨rfl,rfl⟩|⟨rfl,rfl⟩
  ·rw[Ue (by decide),Ue (by decide)];exact e
  ·rw[Uc rfl,Ue (by decide)];exact e
 ·rw[K1]
  show QW t (j,a,b) (k,c,d) v1 (s+tm t (j+v1) k A c+tm t (j+v1) (k+1) A d) 2=_;unfold QW;rw[Ue (by decide),Int.add_assoc]
theorem look_eq (h:Zah t) (s l:Int) {m:Int} (G:m=0\/m=1):∃r,Zb7 t s l m=some r/\Vq t s l m=some r/\-1000000<=r/\r<=1000000:=by
 obtain⟨j,a,b,f,E,y⟩:=Zlr h.1 s;obtain⟨k,c,d,H,B,C⟩:=Zlr h.2.1 l;have O:=f.ab;have u:=f.a0;have P:=f.b0;have J:=f.j0;have x:=f.jl;have o:=f.jb;have Q:=H.ab;have L:=H.a0;have S:=H.b0;have K:=H.j0;have q:=H.jl;have v:=H.jb;have p1:=Zhw (show 0<=a by omega) (show a<=100000 by omega) (show 0<=c by omega) (show c<=100000 by omega);have U:=Zhw (show 0<=a by omega) (show a<=100000 by omega) (show 0<=d by omega) (show d<=100000 by omega);have V:=Zhw (show 0<=b by omega) (show b<=100000 by omega) (show 0<=c by omega) (show c<=100000 by omega);have W:=Zhw (show 0<=b by omega) (show b<=100000 by omega) (show 0<=d by omega) (show d<=100000 by omega);have X:=Int.mul_pos u L;have Y:=ZqL h (i:=j) (k:=k) (a:=a) (c:=c) (λ_=>⟨J,x⟩) (λ_=>⟨K,q⟩);have Z:=ZqL h (i:=j) (k:=k+1) (a:=a) (c:=d) (λ_=>⟨J,x⟩) (λz=>⟨by omega,v z⟩);have q3:=ZqL h (i:=j+1) (k:=k) (a:=b) (c:=c) (λz=>⟨by omega,o z⟩) (λ_=>⟨K,q⟩);have q4:=ZqL h (i:=j+1) (k:=k+1) (a:=b) (c:=d) (λz=>⟨by omega,o z⟩) (λz=>⟨by omega,v z⟩);have N:(a+b)*(c+d)=a*c+a*d+(b*c+b*d):=by rw[Int.add_mul,Int.mul_add,Int.mul_add]
 obtain⟨r,F,D⟩:=Zsn (a:=ZqO t j a b k c d) (b:=(a+b)*(c+d)) (m:=m) (by omega) (by unfold ZqO;omega) (by unfold ZqO;omega) G;have g:=D 1000000 (by omega) (by omega);refine⟨r,?_,?_,g.2.1 (by unfold ZqO;omega),g.1 (by unfold ZqO;omega)⟩
 ·have M:∀v1:Int,v1=(wl j a b).length->Xg t m (wl j a b,a+b) (wl k c d,c+d) (ZqO t j a b k c d) v1=some (.inr r):=λv1 I=>by
   simp only[Xg,I,Uf,Uh];rw[QR (n:=(a+b)*(c+d)),ZjL,F,Bq]
  unfold Zb7;rw[y,C,Bq,Bq];have R:=ZwO h (w:=(wl k c d,c+d)) (v1:=0) (i:=j) (A:=a) (s:=0) rfl H J x u;by_cases T:b=0
  ·have e:wl j a b=[(j,a,())]:=by unfold wl;rw[Uc T]
   refine(Xk (v':=(ZqO t j a b k c d,(1:Int),())) ?_).trans (Y1 (M 1 (by rw[e];rfl)));show Xg t m (wl j a b,a+b) (wl k c d,c+d) 0 0=_;unfold Xg;rw[Uc (by rw[e];show(0:Int)<((1:Nat):Int);omega),show atI (wl j a b,a+b).fst (0:Int)=some (j,a,()) by rw[e];rfl,Bq];refine R.trans ?_;unfold ZqO;rw[T,Zxy,Zxy,K1,K1,Int.zero_add];rfl
  ·have e:wl j a b=[(j,a,()),(j+1,b,())]:=by unfold wl;rw[Ue T]
   have p:=ZwO h (w:=(wl k c d,c+d)) (v1:=1) (i:=j+1) (A:=b) (s:=tm t j k a c+tm t j (k+1) a d) rfl H (by omega) (o (by omega));refine(Xk (v':=(tm t j k a c+tm t j (k+1) a d,(1:Int),())) ?_).trans ((Xk (v':=(ZqO t j a b k c d,(2:Int),())) ?_).trans (Y1 (M 2 (by rw[e];rfl))))
   ·show Xg t m (wl j a b,a+b) (wl k c d,c+d) 0 0=_
    unfold Xg;rw[Uc (by rw[e];show(0:Int)<((2:Nat):Int);omega),show atI (wl j a b,a+b).fst (0:Int)=some (j,a,()) by rw[e];rfl,Bq];refine R.trans ?_;rw[Int.zero_add];rfl
   ·show Xg t m (wl j a b,a+b) (wl k c d,c+d) (tm t j k a c+tm t j (k+1) a d) 1=_
    unfold Xg;rw[Uc (by rw[e];show(1:Int)<((2:Nat):Int);omega),show atI (wl j a b,a+b).fst (1:Int)=some (j+1,b,()) by rw[e];rfl,Bq];exact p
 ·unfold Vq
  rw[E,B,Bq,Bq];have R:=Zpk h f H (v1:=0) (s:=0) (A:=a) (.inl ⟨rfl,rfl⟩);have p:=Zpk h f H (v1:=1) (s:=tm t j k a c+tm t j (k+1) a d) (A:=b) (.inr ⟨rfl,rfl⟩);refine(Xk (v':=(tm t j k a c+tm t j (k+1) a d,(1:Int),())) ?_).trans ((Xk (v':=(ZqO t j a b k c d,(2:Int),())) ?_).trans (Y1 ?_))
  ·show YZ t m (j,a,b) (k,c,d) 0 0=_
   unfold YZ;rw[Uc (by decide)];refine R.trans ?_;rw[K1,Int.zero_add];rfl
  ·show YZ t m (j,a,b) (k,c,d) (tm t j k a c+tm t j (k+1) a d) 1=_
   unfold YZ;rw[Uc (by decide)];exact p
  ·show YZ t m (j,a,b) (k,c,d) (ZqO t j a b k c d) 2=_
   unfold YZ;rw[Ue (by decide)];show(Yx (ZqO t j a b k c d) (Wq (Wq (a+b)*Wq (c+d))) m).bind _=_;rw[QR (n:=a+b),QR (n:=c+d),QR (n:=(a+b)*(c+d)),F];rfl
def sdl (w:Zq) (ld:List Int) (y:Int):Int:=(atI (ndl w ld) y).getD 0
variable {k:Nat} {w:Zq}
theorem Zu5.sink (h:Zu5 b k w ld) (i:y∈Gu w):atI (ndl w ld) y=some (sdl w ld y)/\0<=sdl w ld y/\sdl w ld y<=301000000:=by
 have q:=h.snk y i;obtain⟨x,d,f⟩:=Zit (l:=ndl w ld) q.1 (by rw[h.len];omega);have H:=h.bd x f;have e:sdl w ld y=x:=by unfold sdl;rw[d];rfl
 grind
theorem Zq3 (h:Zu5 b k w ld):Qi b (k:Int)=some ((Gu w).map (sdl w ld)):=by
 unfold Qi;rw[Zvu h,Bq,Zp,h.wire,Bq];have f:=h.few;refine Zw2 (l:=Gu w) (by unfold Len;omega) (λo i=>(o,i,())) (g:=sdl w ld) (s0:=[]) (λm y H s a=>?_) ?_
 ·have R:=(Ua.1 H).1
  have q:s.length<=1048576:=by grind
  simp only[Qm,show(m:Int)<((Gu w).length:Int)from by omega,Ui,Zp,H,(h.sink (Ud H)).1,Bq];rw[Zk (by grind)]
 ·simp only[Qm,Uf,Uh,Uw]
theorem Ztb (h:Zu5 b k w ld) {e:Int} (R:e=0\/e=1):∃f:Int->Int,(∀y∈Gu w,Yx (sdl w ld y) 1000 e=some (f y)/\0<=f y/\f y<=301000)/\VR b (k:Int) e=some ((Gu w).map f):=by
 have d:=h.few;have K:∀y∈Gu w,Yx (sdl w ld y) 1000 e=some ((Yx (sdl w ld y) 1000 e).getD 0)/\0<=(Yx (sdl w ld y) 1000 e).getD 0/\(Yx (sdl w ld y) 1000 e).getD 0<=301000:=λy H=>by
  have q:=(h.sink H).2;obtain⟨r,F,c⟩:=Zsn (a:=sdl w ld y) (b:=1000) (m:=e) (by omega) (by omega) (by omega) R;have:=c 301000 (by omega) (by omega);grind
 refine⟨λy=>(Yx (sdl w ld y) 1000 e).getD 0,K,?_⟩;unfold VR;rw[Zmk h,Bq];refine Zw2 (l:=Gu w) (by unfold Len;omega) (λo i=>(o,i,())) (g:=λy=>(Yx (sdl w ld y) 1000 e).getD 0) (s0:=[]) (λm y H s q=>?_) ?_
 ·have R:=(Ua.1 H).1
  have j:s.length<=1048576:=by grind
  simp only[Qq,Zp,h.wire,show(m:Int)<((Gu w).length:Int)from by omega,Ui,H,(h.sink (Ud H)).1,Bq];rw[(K y (Ud H)).1,Bq,Zk (by grind)];rfl
 ·simp only[Qq,Zp,h.wire,Bq,Uf,Uh,Uw]
variable {l:List α}
theorem Zou {x:α} (h:l[k]?=some x) (g:p x=true) (f:∀(j:Nat) (y:α),j<k->l[j]?=some y->p y=false):Jw p l=(k:Int):=by
 have H:=(Ua.1 h);have:l.findIdx? p=some k:=by
  rw[Kh];refine⟨H.1,by rw[H.2];exact g,λj b=>?_⟩;have:=f j (l[j]'(by have:=H.1;omega)) b (Ub _);simp[this]
 unfold Jw;rw[this]
theorem Zjx (d:Zb) (n:Int) (h:Few d):Zdb d n=some (Jw (λx:Pl=>decide (x.2.2.1=n)&&x.2.2.2.1) (Zg d)):=by
 have H:=ZQ h;unfold Zdb;rw[ZP d h,Bq];refine Q0 (out:=λi=>i) (show Len (Zg d) by show List.length _<=_;omega) (λk x l=>?_) ?_
 ·have a:=(Ua.1 l).1
  simp only[Zep,show(k:Int)<((Zg d).length:Int)from by omega,Ui,Zp,l,Bq,Ur,Ul];split
  ·rename_i E
   split
   ·rename_i e;rw[Uc ⟨E,e⟩]
   ·rename_i e;rw[Ue (λq=>e q.2)]
  ·rename_i E;rw[Ue (λq=>E q.1)]
 ·simp only[Zep,Uf,Uh]
variable {i:Nat} {x:Zd} {a:Zu}
theorem Zvl (s:ZtF a) (h:Zki a d x) (V:(Gc x).length<=1048576):((YW i x).filter (λy=>y.2.2.2.1)).map (λy=>y.2.2.1)=[QA x]:=by
 obtain⟨_,⟨c,p,t⟩,_⟩:=h;have u:2<=(Gb c).length:=(s.2.1 c (Ud p)).2.1.1;unfold YW QA;rw[ZlF V];generalize o:Gc x=l;rw[o]at t;have b:l.length≠0:=by omega
 have g:∀(l:List Int) (m n:Nat),m+l.length=n+1->l.length≠0->((cat (λj N=>[((i:Int),(j:Int),N,decide ((j:Int)=(n:Int)),())]) m l).filter (λy:Pl=>y.2.2.2.1)).map (λy=>y.2.2.1)=[l.getLastD 0]:=by
  intro l;induction l with
  |nil=>intro m n _ k;simp at k
  |cons y r I =>
   intro m n R _;by_cases F:r=[]
   ·subst F
    simp only[Um,Uo]at R;have:(m:Int)=(n:Int):=by omega
    simp[cat,this]
   ·have f:r.length≠0:=λe=>F (UI e)
    simp only[Um]at R;have H:¬(m:Int)=(n:Int):=by omega
    have:=I (m+1) n (by omega) f;simp only[cat,U3,Uw];rw[List.filter_cons_of_neg (by simp[H]),this];cases r with
    |nil=>exact absurd rfl F
    |cons z q=>simp[List.getLastD_cons]
 exact g l 0 (l.length-1) (by omega) b
theorem Zvm (j:Nat) (p:Z6):((Zcd j p).filter (λy=>y.2.2.2.1)).map (λy=>y.2.2.1)=if GF p=1 then[GK p]else[]:=by
 unfold Zcd;by_cases h:GF p=1
 ·simp[h]
 ·simp[h]
theorem ZxO (h:Ql a d) (V:sm YN d):((Zg d).filter (λy=>y.2.2.2.1)).map (λy=>y.2.2.1)=ZoO d:=by
 unfold Zg ZoO;rw[Ki,Kd];congr 1
 ·have:∀(l:List Zd) (m:Nat),(∀x∈l,Zki a d x/\(Gc x).length<=1048576)->((cat YW m l).filter (λy=>y.2.2.2.1)).map (λy=>y.2.2.1)=l.map QA:=by
   intro l;induction l with
   |nil=>intro m _;rfl
   |cons x r i =>
    intro m q;have H:=q x (by simp);simp only[cat,Ki,Kd,List.map_cons];rw[Zvl h.1 H.1 H.2,i (m+1) (λy b=>q y (by simp[b]))];rfl
  exact this _ 0 (λx H=>⟨h.2.2.1 x H,Zv (Zjt (ZuG (Zbw V).1 H)).2⟩)
 ·have:∀(l:List Z6) (m:Nat),((cat Zcd m l).filter (λy=>y.2.2.2.1)).map (λy=>y.2.2.1)=(l.filter (λp=>decide (GF p=1))).map GK:=by
   intro l;induction l with
   |nil=>intro m;rfl
   |cons p r i =>
    intro m;simp only[cat,Ki,Kd];rw[Zvm,i (m+1)];by_cases N:GF p=1
    ·simp[N]
    ·simp[N]
  exact this _ 0
theorem Zry {a b:α} (Z:i<j) (n:l[i]?=some a) (h:l[j]?=some b) (P:p a=true) (c:p b=true):2<=l.countP p:=by
 have e:l.countP p=(l.take j).countP p+(l.drop j).countP p:=by rw[<-Kp,KH]
 have d:0<(l.take j).countP p:=KN.2 ⟨a,UC.2 ⟨i,by rw[UB,Uc Z];exact n⟩,P⟩;have f:0<(l.drop j).countP p:=KN.2 ⟨b,UC.2 ⟨0,by rw[Ky];exact h⟩,c⟩;omega
def Zu0 (n:Int) (x:Pl):Bool:=decide (x.2.2.1=n)&&x.2.2.2.1
def Ziu (d:Zb) (n:Int):Int:=Jw (Zu0 n) (Zg d)
theorem Zzs (h:Ql a d) (V:sm YN d) (b:v<(K5 d).length):(Zg d).countP (Zu0 (v:Int))=1:=by
 have H:=h.2.2.2.2 _ (Ud (ZjI (s:=ZoO d) b));rw[<-ZxO h V,List.countP_map,List.countP_filter]at H;have e:(Zg d).countP (Zu0 (v:Int))=(Zg d).countP (λy=>((λx=>decide (x=(v:Int)))∘λy:Pl=>y.2.2.1) y&&y.2.2.2.1):=rfl;rw[e];omega
theorem Zos (h:Ql a d) (V:sm YN d) (e:v<(K5 d).length:=by omega) :
  ∃(q:Nat) (y:Pl),(Zg d)[q]?=some y/\Zu0 (v:Int) y=true/\Ziu d (v:Int)=(q:Int)/\∀(p:Nat) (z:Pl),(Zg d)[p]?=some z->Zu0 (v:Int) z=true->p=q:=by
 have f:=Zzs h V e;obtain⟨y,i,g⟩:=KN.1 (show 0<(Zg d).countP (Zu0 (v:Int)) by omega);obtain⟨q,b⟩:=UC.1 i;have u:∀(p:Nat) (z:Pl),(Zg d)[p]?=some z->Zu0 (v:Int) z=true->p=q:=by
  intro p z T H;rcases KK p q with t|m|t
  ·have:=Zry t T b H g;omega
  ·exact m
  ·have:=Zry t b T g H;omega
 refine⟨q,y,b,g,Zou b g (λj z k T=>?_),u⟩;cases c:Zu0 (v:Int) z
 ·rfl
 ·have:=u j z T c;omega
theorem ZkJ (h:Z7 b) (d:(K4 b)[k]?=some w):∃r,Qi b (k:Int)=some r/\r.length<=1048576:=by
 have F:=h.ok.2.2 k w d;obtain⟨⟨L,S⟩,lr,U,ls,C,O,N,n⟩:=F;obtain⟨nl,g,a⟩:=ZjX h d;have V:=Zv (Zk1 (JJ (Vi h.sm).2.2 d)).2.2.2;have c:∃r,Vl b (k:Int)=some r/\r.length=(K8 w).length:=by
  unfold Vl;rw[Zp,d,Bq,g,Bq,Ra,Ra,Ra,Ra];refine Zfz ((K8 w).length-1) (λm v=>v.1=((m+1:Nat):Int)/\v.2.1.length=(K8 w).length) _ ⟨rfl,by simp[a]⟩ ?_ ?_
  ·rintro m ⟨i,l,⟨⟩⟩ R ⟨H,f⟩
   simp only at H f;subst H;left;have j:(K8 w)[m+1]?=some (K8 w)[m+1]:=Ub (by omega);generalize (K8 w)[m+1]=p at j;have s:=(C (m+1) p j).2 (by omega);obtain⟨q,e,_⟩:=Zit (l:=l) s.1;have B:(GB w)[m+1]?=some (GB w)[m+1]:=Ub (by omega);have A:nl[m+1]?=some nl[m+1]:=Ub (by omega);have T:l[m+1]?=some l[m+1]:=Ub (by omega);simp only[Qs,show((m+1:Nat):Int)<(l.length:Int)from by omega,Ui,Zp,j,e,B,A,T,Bq];exact⟨_,rfl,by rw[Y3],by simp[f]⟩
  ·rintro⟨i,l,⟨⟩⟩ ⟨H,f⟩
   simp only at H f;subst H;simp only[Qs,show ¬(((K8 w).length-1+1:Nat):Int)<(l.length:Int)from by omega,Uh];grind
 obtain⟨nd,c,u⟩:=c;unfold Qi;rw[c,Bq,Zp,d,Bq];refine ZfV (l:=Gu w) (λm v=>v.1.length=m/\v.2.1=(m:Int)) _ ⟨rfl,rfl⟩ ?_ ?_
 ·rintro m y ⟨o,i,⟨⟩⟩ z R ⟨x,H⟩
  simp only at H x;subst H;have t:=n y (Ud z);obtain⟨q,e,_⟩:=Zit (l:=nd) t.1;simp only[Qm,show(m:Int)<((Gu w).length:Int)from by omega,Ui,Zp,z,e,Bq];rw[Zk (by simp;omega)];exact⟨_,rfl,by simp[x],by rw[Y3]⟩
 ·rintro⟨o,i,⟨⟩⟩ ⟨x,H⟩
  simp only at H x;subst H;simp only[Qm,Uf,Uh];grind
theorem ZqM (a:ZK):∃r,VU a=some r/\r.length<=4:=by
 unfold VU;repeat' split
 all_goals grind
theorem Zsf (h:Z7 b) (s:x∈K3 (K2 b)) (f:Int):∃r,VW b x f=some r/\r.length<=32:=by
 obtain⟨q,⟨c,a,g⟩,_⟩:=h.ok.1.2.2.1 x s;have w:=(h.ok.1.1.2.1 c (Ud a)).2.2.1.1;unfold VW;rw[Yr q.1 a,Bq];refine ZfV (l:=Gp c) (λm v=>v.1.length<=4*m/\v.2.1=(m:Int)) _ ⟨by simp,rfl⟩ ?_ ?_
 ·rintro m y ⟨o,i,⟨⟩⟩ t A ⟨d,H⟩
  simp only at H d;subst H;obtain⟨T,e,p⟩:=ZqM y;simp only[QI,show(m:Int)<((Gp c).length:Int)from by omega,Ui,Zp,t,e,Bq];obtain⟨r,j,R,rfl,k⟩:=ZfV (l:=T) (ρ:=(List Zt×Int×Unit)⊕List Zt) (step:=λv=>X3 f (m:Int) y T v.1 v.2.1) (v:=(o,(0:Int),())) (λn v=>v.1.length=o.length+n/\v.2.1=(n:Int)) (λr=>∃R,r=.inl R/\R.1.length<=4*(m+1)/\R.2.1=((m+1:Nat):Int)) ⟨rfl,rfl⟩
   (by
    rintro n z ⟨O,i,⟨⟩⟩ u B ⟨I,H⟩;simp only at H I;subst H;simp only[X3,show (n:Int)<(T.length:Int) from by omega,Ui,Zp,u,Bq];rw[Zk (by simp;omega)];exact ⟨_,rfl,by simp[I];omega,by rw[Y3]⟩)
   (by
    rintro ⟨O,i,⟨⟩⟩ ⟨I,H⟩;simp only at H I;subst H;simp only[X3,Uf,Uh];exact ⟨_,rfl,_,rfl,by simp only;omega,by rw[Y3]⟩)
  grind
 ·rintro⟨o,i,⟨⟩⟩ ⟨d,H⟩
  simp only at H d;subst H;simp only[QI,Uf,Uh];grind
def Short (l:List (List Int)) (n m:Nat):Prop:=l.length=n/\∀x∈l,x.length<=m
variable {l:List (List Int)}
theorem Short.set (h:Short l n m) {x:List Int} (a:x.length<=m) (i:Nat):Short (l.set i x) n m:=by
 refine⟨by simp[h.1],λy H=>?_⟩;rcases U5 H with H|rfl
 ·exact h.2 y H
 ·exact a
theorem Short.mono {p:Nat} (h:Short l n m) (g:m<=p):Short l n p:=⟨h.1,λx H=>Ko (h.2 x H) g⟩
theorem Zmc (h:Z7 b):∃v,Zar b=some v/\ZW.Zg v=Zg (K2 b)/\G0 v=b:=by
 have B:=h.ok.1;have F:=B.few;have a5:=ZQ F;have a1:=F.insts;have a6:=h.ok.2.1;have a2:=B.2.1.2.1;unfold Zar;rw[ZM _ F,Bq];refine ZfV (l:=K3 (K2 b)) (λk v=>v.2.1=(k:Int)/\v.2.2.1.length<=32*k) _ ⟨rfl,by simp⟩ ?_ ?_
 ·rintro k x ⟨n,i,c,⟨⟩⟩ t Y ⟨H,hc⟩
  simp only at H hc;subst H;obtain⟨r,d,e⟩:=Zsf h (Ud t) n;simp only[Zbl,show(k:Int)<((K3 (K2 b)).length:Int)from by omega,Ui,Zp,t,d,Bq,VZ];rw[Ra];exact⟨_,rfl,by simp only;rw[Y3],by grind⟩
 ·rintro⟨n,i,c0,⟨⟩⟩ ⟨H,D⟩
  simp only at H D;subst H;simp only[Zbl,Uf,Uh];rw[Ra,Ra,Ra,Ra,Ra];obtain⟨r,d,R,rfl,e⟩:=ZfV (l:=Zg (K2 b)) (ρ:=(Int×Int×List Zt×Unit)⊕ZW) (step:=λv=>VJ b (Zg (K2 b)) c0 v.1 v.2.1 v.2.2.1) (v:=((0:Int),List.replicate (Int.toNat (↑(List.length (K4 b)):Int)) (0:Int),List.replicate (Int.toNat (↑(List.length (K4 b)):Int)) (([]:List Int)),()))
   (λk v=>v.1=(k:Int)/\v.2.1.length=(K4 b).length/\Short v.2.2.1 (K4 b).length k)
   (λr=>∃R,r=.inr R/\ZW.Zg R=Zg (K2 b)/\G0 R=b)
   ⟨rfl,by simp,by simp,by
    grind⟩
   (by
    rintro k x ⟨i,l0,L,⟨⟩⟩ t Y ⟨H,o,f⟩;simp only at H o f;subst H;have I:=XP B (Ud t);have a3:=I.2;simp only[VJ,show(k:Int)<((Zg (K2 b)).length:Int)from by omega,Ui,Zp,t,Bq];obtain⟨q,O,_⟩:=Zit (l:=l0) I.1;obtain⟨p,M,N⟩:=Zit (l:=L) I.1 (by have:=f.1;omega);have a4:=f.2 p N;split
    ·rw[show atI l0 (ZL.net x)=some q from O,Bq]
     exact⟨_,rfl,by simp only;rw[Y3],by simp[o],f.mono (by omega)⟩
    ·rw[show atI L (ZL.net x)=some p from M,Bq,Zk (by simp;omega)]
     exact ⟨_,rfl,by simp only;rw[Y3],o,(f.mono (by omega)).set (by simp;omega) _⟩)
   (by
    rintro⟨i,l0,L,⟨⟩⟩ ⟨H,o,f⟩;simp only at H o f;subst H;simp only[VJ,Uf,Uh];obtain⟨r,d,R,rfl,e⟩:=ZfV (l:=K4 b) (ρ:=(Int×List Int×List (List Int)×Unit)⊕((Int×Int×List Zt×Unit)⊕ZW)) (step:=λv=>VI b (Zg (K2 b)) l0 v.1 v.2.1 v.2.2.1 v.2.2.2.1 v.2.2.2.2.1) (v:=((0:Int),([]:List Int),([]:List (List Int)),c0,L,()))
     (λk v=>v.1=(k:Int)/\v.2.1.length=k/\v.2.2.1.length=k/\v.2.2.2.1.length<=448+156*k/\Short v.2.2.2.2.1 (K4 b).length 78)
     (λr=>∃R,r=.inr (.inr R)/\ZW.Zg R=Zg (K2 b)/\G0 R=b)
     ⟨rfl,rfl,rfl,by simp only;omega,f.mono (by omega)⟩
     (by
      rintro k w ⟨i,c1,c2,C,S,⟨⟩⟩ P Y ⟨H,G,u,V,g⟩;simp only at H G u V g;subst H;obtain⟨nl,K,Z⟩:=ZjX h P;obtain⟨ed,E,W⟩:=ZkJ h P;have a0:=(h.ok.2.2 k w P).1.1;have J:atI nl (0:Int)=some nl[0]:=(show nl[0]?=some nl[0]from Ub (by omega));obtain⟨X,T⟩:∃X,S[k]?=some X:=⟨_,Ub (by have:=g.1;omega)⟩;have Q:=g.2 X (Ud T);simp only[VI,show(k:Int)<((K4 b).length:Int)from by omega,Ui,K,J,E,Bq,Zp,T];rw[Zk (by simp;omega),Zk (by simp;omega)];obtain⟨r,d,R,rfl,e⟩:=ZfV (l:=X) (ρ:=(Int×List Int×List (List Int)×List Zt×List (List Int)×Unit)⊕((Int×List Int×List (List Int)×Unit)⊕((Int×Int×List Zt×Unit)⊕ZW))) (step:=λv=>VH l0 (k:Int) c1 c2 S nl[0] ed X v.1 v.2.1) (v:=((0:Int),C,()))
       (λm v=>v.1=(m:Int)/\v.2.1.length=C.length+2*m)
       (λr=>∃R,r=.inl R/\R.1=((k+1:Nat):Int)/\R.2.1.length=k+1/\R.2.2.1.length=k+1/\R.2.2.2.1.length<=448+156*(k+1)/\Short R.2.2.2.2.1 (K4 b).length 78)
       ⟨rfl,rfl⟩
       (by
        rintro m y ⟨i,U,⟨⟩⟩ hy hm ⟨H,A⟩;simp only at H A;subst H;simp only[VH,show(m:Int)<(X.length:Int)from by omega,Ui,Zp,hy,Bq];have s:l0[k]?=some l0[k]:=Ub (by omega);generalize l0[k]=z at s;obtain⟨r,d,R,rfl,e⟩:=Zfz (step:=λv=>QT l0 (k:Int) (m:Int) y v.1 v.2.1) 2 (λj v=>v.1=(j:Int)/\v.2.1.length=U.length+j) (λr=>∃R,r=.inl R/\R.1=((m+1:Nat):Int)/\R.2.1.length=U.length+2) (v:=((0:Int),U,())) ⟨rfl,rfl⟩
         (by
          rintro j ⟨i,c5,⟨⟩⟩ hj ⟨H,a⟩;simp only at H a;subst H;left;simp only[QT,show (j:Int)<(2:Int) from by omega,Ui,Zp,s,Bq];rw[Zk (by simp;omega)];exact ⟨_,rfl,by simp only;rw[Y3],by simp[a];omega⟩)
         (by
          rintro ⟨i,c5,⟨⟩⟩ ⟨H,a⟩;simp only at H a;subst H;simp only[QT,show ¬((2:Nat):Int)<(2:Int) from by omega,Uh];exact ⟨_,rfl,_,rfl,by simp only;rw[Y3],a⟩)
        grind)
       (by
        rintro ⟨i,U,⟨⟩⟩ ⟨H,A⟩;simp only at H A;subst H;simp only[VH,Uf,Uh];exact ⟨_,rfl,_,rfl,by simp only;rw[Y3],by simp[G],by simp[u],by simp only;omega,g.set Q _⟩)
      grind)
     (by
      rintro ⟨i,c1,c2,C,S,⟨⟩⟩ ⟨H,G,u,V,g⟩;simp only at H;subst H;simp only[VI,Uf,Uh];grind)
    grind)
  grind
end Go.Proofs.YtoijdogpgpbddaaGreatDoor
