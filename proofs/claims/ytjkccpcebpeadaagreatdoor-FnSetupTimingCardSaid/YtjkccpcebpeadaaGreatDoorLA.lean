/-
  Ground of the plain laws: loops by what they come to; small arithmetic.
-/
import Derived.Test.YtjkccpcebpeadaaGreatDoorE1
import Derived.IntWalk
import Derived.Test.YtjkccpcebpeadaaGreatDoorM
namespace Go.Proofs.YtjkccpcebpeadaaGreatDoor
set_option linter.unusedVariables false
set_option linter.unusedSimpArgs false
open Go Go.Sx
theorem Yy {n:Int} (d:-9223372036854775808<=n:=by omega) (f:n<=9223372036854775807:=by omega):Wq n=n:=IntWalk.i64_in n ⟨d,f⟩
theorem QR{n:Int}(a:-9223372036854775808<=n:=by omega)(b:n<=9223372036854775807:=by omega):Wq n=n:=Yy a b
variable {α:Type}
theorem Zv (l:List α) (k:Nat):atI l (k:Int)=l[k]?:=by simp[atI]
variable {l:List α} {i:Int} {x:α}
theorem Qt (k:0<=i) (h:l[i.toNat]?=some x):atI l i=some x:=by simp[atI,k,h]
theorem Zjv (k:0<=i) (d:i<l.length:=by omega):∃x,atI l i=some x/\l[i.toNat]?=some x :=
 ⟨l[i.toNat]'(by omega),by simp[atI,k],Ua _⟩
variable {p:Prop}
theorem Zk (h:p) (a:Option α):Zw p a=a:=by
 unfold Zw;exact Uc h
theorem Ra{α:Type}{p:Prop}{a:Option α}(h:p:=by omega):Zw p a=a:=Zk h a
variable {τ ρ:Type} (n:Nat) (I:Nat->τ->Prop) {v:τ}
theorem ZdQ {step:τ->Option (τ⊕ρ)} (Q:ρ->Prop) (H:I 0 v)
  (s:∀k v,k<n->I k v->(∃v',step v=some (.inl v')/\I (k+1) v')\/∃r,step v=some (.inr r)/\Q r)
  (l:∀v,I n v->∃r,step v=some (.inr r)/\Q r):∃r,Zt step v=some r/\Q r:=by
 have:∀m k v,k+m=n->I k v->∃r,Zt step v=some r/\Q r:=by
  intro m;induction m with
  |zero =>
   intro k v b h;have:k=n:=by omega
   subst this;obtain⟨r,e,a⟩:=l v h;exact⟨r,YF e,a⟩
  |succ m i =>
   intro k v b h;rcases s k v (by omega) h with⟨v',e,q⟩|⟨r,e,a⟩
   ·obtain⟨r,d,f⟩:=i (k+1) v' (by omega) q
    exact⟨r,by rw[YW e];exact d,f⟩
   ·exact⟨r,YF e,a⟩
 exact this n 0 v (by omega) H
theorem YC {step:τ->Option (τ⊕ρ)} (R:ρ) (H:I 0 v)
  (q:∀k v,k<n->I k v->(∃v',step v=some (.inl v')/\I (k+1) v')\/step v=some (.inr R))
  (l:∀v,I n v->step v=some (.inr R)):Zt step v=some R:=by
 obtain⟨r,d,f⟩:=ZdQ n I (λr=>r=R) H (λk v a m=>(q k v a m).elim .inl (λh=>.inr ⟨R,h,rfl⟩)) (λv m=>⟨R,l v m,rfl⟩);rw[d,f]
variable {k:Nat}
theorem XF (h:l[k]?=some x):l.take (k+1)=l.take k++[x]:=by
 rw[List.take_add_one,h];rfl
theorem Zqx {g:Nat->Option ρ} {v:ρ} (h:∃n,g n=some v) (L:∀n r,g n=some r->r=v):ZAD g=some v:=by
 obtain⟨n,X⟩:=h;unfold ZAD;have l:∃r n,g n=some r:=⟨v,n,X⟩;grind
def sm:(t:Ty)->t.den->Prop
 | .str,s=>(s.length:Int)<=1048576
 | .sl t,l=>(l.length:Int)<=1048576/\∀x∈l,sm t x
 | .pair a b,d=>sm a d.1/\sm b d.2
 |_,_=>True
noncomputable def tr (p:Prop):Bool:=@decide p (Classical.propDecidable p)
variable {b:Bool}
theorem Zm3 (h:b=true<->p):tr p=b:=by
 unfold tr;grind
theorem Xf (p:Prop):tr p=true<->p:=by simp[tr]
theorem ZR (h:p):tr p=true:=(Xf p).2 h
theorem ZT (h:¬p):tr p=false:=by simp[tr,h]
def within (n a b:Int):Bool:=decide (a<=n)&&decide (n<=b)
theorem Jb (n a b:Int):Z6 n a b=some (within n a b):=by
 unfold Z6 within;split<;>simp[*]
theorem JZ (n a b:Int):ZV n a b=some (within n a b):=by
 unfold ZV within;split<;>simp[*]
theorem QD (n a b:Int):within n a b=true<->a<=n/\n<=b:=by simp[within]
def Zhf (b:UInt8):Bool:=decide (97<=b.toNat)&&decide (b.toNat<=122)
def ZlS (b:UInt8):Bool:=decide (48<=b.toNat)&&decide (b.toNat<=57)
def ZaK (s:List UInt8):Bool:=decide (1<=s.length)&&decide (s.length<=8)&&s.all (λb=>Zhf b||ZlS b)&&(match s with
 |b::_=>Zhf b
 | []=>false)
def Zq3 (s:List UInt8) (i:Nat):Prop:=∀(j:Nat) (b:UInt8),j<i->s[j]?=some b->(Zhf b||ZlS b)=true/\(j=0->Zhf b=true)
variable {s:List UInt8}
theorem Zs1 {i:Nat} {x:UInt8} (h:Zq3 s i) (l:s[i]?=some x) (d:(Zhf x||ZlS x)=true) (f:i=0->Zhf x=true):Zq3 s (i+1):=by
 intro j b a H;by_cases e:j<i
 ·exact h j b e H
 ·have:j=i:=by omega
  subst this;rw[l]at H;injection H with H;subst H
  exact⟨d,f⟩
theorem Zqq (h:Zq3 s s.length):ZaK s=(decide (1<=s.length)&&decide (s.length<=8)):=by
 unfold ZaK;have d:s.all (λb=>Zhf b||ZlS b)=true:=by
  rw[Kw];intro b a;obtain⟨j,H⟩:=UA.1 a;exact(h j b (Ub.1 H).1 H).1
 rw[d];cases s with
 |nil=>rfl
 |cons b r =>
  have:=(h 0 b (by simp) rfl).2 rfl;simp[this]
variable {j:Nat}
theorem ZuS {b:UInt8} (H:s[j]?=some b) (h:(Zhf b||ZlS b)=false\/j=0/\Zhf b=false):ZaK s=false:=by
 unfold ZaK;rcases h with h|⟨rfl,h⟩
 ·have:s.all (λb=>Zhf b||ZlS b)=false:=by
   rw[List.all_eq_false];exact⟨b,Ud H,by simp[h]⟩
  simp[this]
 ·cases s with
  |nil=>simp at H
  |cons c r=>simp at H;subst H;simp[h]
variable (s:List UInt8)
theorem Zcf (q:s.length<=4611686018427387904):ZaN s=some (ZaK s):=by
 unfold ZaN;refine YC s.length (λk v=>v.1=(k:Int)/\Zq3 s k) _ ⟨rfl,λj b c=>by omega⟩ ?_ ?_
 ·rintro k ⟨i,⟨⟩⟩ a ⟨rfl,H⟩
  have l:s[k]?=some s[k]:=Ua a;generalize s[k]=x at l;simp only[Zes,Zv,l,Bq,show(k:Int)<(s.length:Int)from by omega,Uk,Yy (show(-9223372036854775808:Int)<=(k:Int)+1 by omega)];have ok:(Zhf x||ZlS x)=true->(k=0->Zhf x=true)->(((k:Int)+1,()):Int×Unit).1=((k+1:Nat):Int)/\Zq3 s (k+1):=λd f=>⟨by simp,Zs1 H l d f⟩;have bad:((Zhf x||ZlS x)=false\/k=0/\Zhf x=false)->(some (Sum.inr false):Option (Int×Unit⊕Bool))=some (Sum.inr (ZaK s)):=λh=>by rw[ZuS l h]
  simp only[Zhf,ZlS]at ok bad;repeat' split
  all_goals first
   |(left;refine⟨_,rfl,ok ?_ ?_⟩<;>simp<;>omega)
   |(right;refine bad ?_;first|(left;simp;omega)|(right;simp;omega))
 ·rintro⟨i,⟨⟩⟩ ⟨rfl,H⟩
  simp only[Zes,Ui,Uj];rw[Zqq H];split
  ·rename_i h
   have d:1<=s.length:=by omega
   have f:decide ((s.length:Int)<=8)=decide (s.length<=8):=by rw[Kx];omega
   simp[d,f]
  ·have d:¬1<=s.length:=by omega
   simp[d]
theorem dropWhile_nil {p:UInt8->Bool}:∀(m:List UInt8),(∀x∈m.dropWhile p,p x=true)->∀x∈m,p x=true
 |[],_=>by simp
 |a::m,h=>by
  by_cases n:p a=true
  ·rw[List.dropWhile_cons_of_pos n]at h
   intro x l;rcases Us.1 l with rfl|l
   ·exact n
   ·exact dropWhile_nil m h x l
  ·rw[List.dropWhile_cons_of_neg n]at h
   exact absurd (h a (by simp)) n
theorem ZkB {p:UInt8->Bool}:∀(m:List UInt8),m.dropWhile p=[]<->∀x∈m,p x=true
 |[]=>by simp
 |a::m=>by
  by_cases n:p a=true
  ·rw[List.dropWhile_cons_of_pos n,ZkB m];simp[n]
  ·rw[List.dropWhile_cons_of_neg n];simp[n]
theorem ZxD (cs:List UInt8):Lib.trimS s cs=[]<->∀b∈s,cs.contains b=true:=by
 unfold Lib.trimS Lib.trimLeftS Lib.trimRightS;rw[ZkB];constructor
 ·intro h b H
  exact dropWhile_nil s.reverse (λx l=>h x (List.mem_reverse.2 l)) b (List.mem_reverse.2 H)
 ·intro h b H
  exact h b (List.mem_reverse.1 ((List.dropWhile_sublist _).subset (List.mem_reverse.1 H)))
def letters:List UInt8:=[97,98,99,100,101,102,103,104,105,106,107,108,109,110,111,112,113,114,115,116,117,118,119,120,121,122]
def ZhT:List UInt8:=letters++[48,49,50,51,52,53,54,55,56,57]
theorem Zzn {p:UInt8->Bool} (h:(List.range 256).all (λn=>p (UInt8.ofNat n))=true) (b:UInt8):p b=true:=by
 rw[Kw]at h;have:=h b.toNat (Ky.2 b.toNat_lt);simpa using this
theorem Zis (b:UInt8):ZhT.contains b=(Zhf b||ZlS b):=by
 have:=Zzn (p:=λb=>ZhT.contains b==(Zhf b||ZlS b)) (by decide +kernel) b;simpa using this
theorem Zsb:Lib.trimS s ZhT=[]<->s.all (λb=>Zhf b||ZlS b)=true:=by
 rw[ZxD,Kw];simp only[Zis]
theorem Zqg (b:UInt8):decide (0<=(Lib.indexByte letters b:Int))=Zhf b:=by
 have:=Zzn (p:=λb=>decide (0<=(Lib.indexByte letters b:Int))==Zhf b) (by decide +kernel) b;simpa using this
theorem Zhd:ZeS s=some (ZaK s):=by
 unfold ZeS;rw[Jb,Bq];split
 ·rename_i h
  rw[QD]at h;rw[Ra];split
  ·rename_i t
   have H:=(Zsb s).1 t;cases s with
   |nil=>simp at h
   |cons b r =>
    have e:atI (b::r) (0:Int)=some b:=rfl;rw[e,Bq];have e1:((b.toNat:Int)).toNat.toUInt8=b:=by simp
    rw[e1];have d:1<=(b::r).length:=by simp
    have f:(b::r).length<=8:=by omega
    have:=Zqg b;unfold letters at this;rw[this];simp only[ZaK,H,UJ d,UJ f,KE]
  ·rename_i t
   have H:¬s.all (λb=>Zhf b||ZlS b)=true:=λe=>t ((Zsb s).2 e);simp only[ZaK,Bool.eq_false_iff.2 H,Bool.and_false,Bool.false_and]
 ·rename_i h
  rw[QD]at h;have:¬(1<=s.length/\s.length<=8):=by omega
  rw[eq_comm];congr 1;rw[Bool.eq_false_iff];intro a;simp only[ZaK,Up,Ul]at a;omega
variable (l:List (List UInt8))
theorem ZmW (s:List UInt8) (q:l.length<=4611686018427387904):∃r,QW l s=some r/\(0<=r<->s∈l):=by
 unfold QW;refine ZdQ l.length (λk v=>v.1=(k:Int)/\s ∉ l.take k) _ ⟨rfl,by simp⟩ ?_ ?_
 ·rintro k ⟨i,⟨⟩⟩ b ⟨rfl,a⟩
  have H:l[k]?=some l[k]:=Ua b;generalize l[k]=x at H;simp only[QX,Zv,H,Bq,show(k:Int)<(l.length:Int)from by omega,Uk,Yy (show(-9223372036854775808:Int)<=(k:Int)+1 by omega)];split
  ·rename_i e;subst e
   exact .inr ⟨_,rfl,λ_=>Ud H,λ_=>by simp⟩
  ·rename_i e
   exact .inl ⟨_,rfl,by simp,by rw[XF H];simp[a,e]⟩
 ·rintro⟨i,⟨⟩⟩ ⟨rfl,a⟩
  simp only[QX,Ui,Uj];refine⟨_,rfl,λh=>by omega,λh=>absurd h (by simpa using a)⟩
theorem Zkb (s:List UInt8) (q:l.length<=4611686018427387904):Qj l s=some (decide (s∈l)):=by
 obtain⟨r,d,f⟩:=ZmW l s q;unfold Qj;rw[d,Bq];simp only[f]
def V4 (l:List (List UInt8)) (k:Nat):Prop:=∀(j:Nat) (s:List UInt8),j<k->l[j]?=some s->ZaK s=true/\s ∉ l.take j
theorem VK (c:l.length<=4611686018427387904:=by omega):Vs l=some (tr (V4 l l.length)):=by
 unfold Vs;refine YC l.length (λk v=>v.1=(k:Int)/\V4 l k) _ ⟨rfl,λj s b=>by omega⟩ ?_ ?_
 ·rintro k ⟨i,⟨⟩⟩ a ⟨rfl,H⟩
  have h:l[k]?=some l[k]:=Ua a;generalize l[k]=x at h;simp only[Zdm,Zv,h,Bq,show(k:Int)<(l.length:Int)from by omega,Uk,Yy (show(-9223372036854775808:Int)<=(k:Int)+1 by omega),Zhd];split
  ·rename_i X
   rw[Ra,Ra];simp only[UG,Int.toNat_zero,KL,Nat.sub_zero];rw[Zkb _ _ (by simp only[Uo];omega),Bq];split
   ·rename_i R
    right;rw[ZT];intro r;exact(r k x a h).2 (by simpa using R)
   ·rename_i R
    refine .inl ⟨_,rfl,by simp,λj s b q=>?_⟩;by_cases e:j<k
    ·exact H j s e q
    ·have:j=k:=by omega
     subst this;rw[h]at q;injection q with q;subst q
     exact⟨X,by simpa using R⟩
  ·rename_i X
   right;rw[ZT];intro r;exact X (r k x a h).1
 ·rintro⟨i,⟨⟩⟩ ⟨rfl,H⟩
  simp only[Zdm,Ui,Uj];rw[ZR H]
def allIn (l:List Int) (o h:Int):Bool:=l.all (λn=>within n o h)
theorem Zcv (l:List Int) (o h:Int) (q:l.length<=4611686018427387904:=by omega):Xy l o h=some (allIn l o h):=by
 have d:∃r,Yp l (o,h,())=some r/\(0<=r<->allIn l o h=false):=by
  unfold Yp;refine ZdQ l.length (λk v=>v.1=(k:Int)/\allIn (l.take k) o h=true) _ ⟨rfl,rfl⟩ ?_ ?_
  ·rintro k ⟨i,⟨⟩⟩ a ⟨rfl,s⟩
   have H:l[k]?=some l[k]:=Ua a;generalize l[k]=x at H;simp only[Yz,ZeQ,Jb,Zv,H,Bq,show(k:Int)<(l.length:Int)from by omega,Uk,Yy (show(-9223372036854775808:Int)<=(k:Int)+1 by omega)];cases c:within x o h
   ·refine .inr ⟨_,rfl,λ_=>?_,λ_=>by simp⟩
    rw[allIn,List.all_eq_false];grind
   ·refine .inl ⟨_,rfl,by simp,?_⟩
    rw[XF H,allIn,List.all_append];simp only[allIn]at s;simp[s,c]
  ·rintro⟨i,⟨⟩⟩ ⟨rfl,s⟩
   rw[Ur]at s;simp only[Yz,Ui,Uj];grind
 obtain⟨r,d,f⟩:=d;unfold Xy YJ;grind
def Len {α:Type} (l:List α):Prop:=l.length<=4611686018427387904
variable {l:List α}
theorem Zvw (q:Len l) (H:k<=l.length:=by omega):Wq ((k:Int)+1)=((k+1:Nat):Int):=by
 have:l.length<=4611686018427387904:=q;rw[QR];simp
def ZaI {α:Type} (p:α->Bool) (l:List α):Int:=match l.findIdx? p with
 |some i=>i
 |none=>-1
variable {p:α->Bool}
theorem Zwm:ZaI p l<l.length:=by
 unfold ZaI;split
 ·rename_i i h
  have:=(U9.1 h).1;omega
 ·omega
theorem Vr:0<=ZaI p l<->l.any p=true:=by
 unfold ZaI;grind
theorem Jh (q:Len l) {step:Int×Unit->Option ((Int×Unit)⊕ρ)} {out:Int->ρ}
  (b:∀(k:Nat) (x:α),l[k]?=some x->step ((k:Int),())=some (if p x=true then .inr (out k)else .inl (Wq ((k:Int)+1),())))
  (H:step ((l.length:Int),())=some (.inr (out (-1)))):Zt step (0,())=some (out (ZaI p l)):=by
 refine YC l.length (λk v=>v.1=(k:Int)/\∀x∈l.take k,p x=false) _ ⟨rfl,by simp⟩ ?_ ?_
 ·rintro k ⟨i,⟨⟩⟩ a ⟨h,s⟩
  simp only at h;subst h;have H:l[k]?=some l[k]:=Ua a;rw[b k _ H,Zvw q];split
  ·rename_i g
   right;have:l.findIdx? p=some k:=by
    rw[U9];refine⟨a,g,λj c=>?_⟩;have:=s l[j] (UA.2 ⟨j,by grind⟩);simp[this]
   unfold ZaI;rw[this]
  ·rename_i g
   refine .inl ⟨_,rfl,rfl,?_⟩;rw[XF H];grind
 ·rintro⟨i,⟨⟩⟩ ⟨h,s⟩
  simp only at h;subst h;rw[Ur]at s;have:l.findIdx? p=none:=List.findIdx?_eq_none_iff.2 s;rw[H];unfold ZaI;rw[this]
def XU {α σ:Type} (f:Nat->α->σ->σ):Nat->List α->σ->σ
 |_,[],s=>s
 |k,x::r,s=>XU f (k+1) r (f k x s)
theorem ZgM {α σ:Type} (f:Nat->α->σ->σ):∀(l r:List α) (m:Nat) (s:σ),XU f m (l++r) s=XU f (m+l.length) r (XU f m l s)
 |[],r,m,s=>by simp[XU]
 |x::l,r,m,s=>by
  simp only[U0,XU,Uf,ZgM f l r];grind
theorem Zcq {σ:Type} {f:Nat->α->σ->σ} (h:l[k]?=some x) (s:σ):XU f 0 (l.take (k+1)) s=f k x (XU f 0 (l.take k) s):=by
 have H:=(Ub.1 h).1;rw[XF h,ZgM];simp only[XU,Uw,Uo];grind
variable {R:ρ}
theorem Zbl {σ:Type} (q:Len l) (p:σ->Int->τ) {f:Nat->α->σ->σ} {step:τ->Option (τ⊕ρ)} {s0:σ} (I:Nat->σ->Prop) (H:I 0 s0)
  (c:∀(k:Nat) (x:α) (s:σ),l[k]?=some x->I k s->s=XU f 0 (l.take k) s0->step (p s (k:Int))=some (.inl (p (f k x s) (Wq ((k:Int)+1))))/\I (k+1) (f k x s))
  (h:∀s,I l.length s->s=XU f 0 l s0->step (p s (l.length:Int))=some (.inr R)):Zt step (p s0 0)=some R:=by
 refine YC l.length (λk v=>v=p (XU f 0 (l.take k) s0) (k:Int)/\I k (XU f 0 (l.take k) s0)) _ ⟨rfl,H⟩ ?_ ?_
 ·rintro k _ b ⟨rfl,m⟩
  have h:l[k]?=some l[k]:=Ua b;obtain⟨d,a⟩:=c k _ _ h m rfl;rw[d,Zvw q];exact .inl ⟨_,rfl,by rw[Zcq h],by rw[Zcq h];exact a⟩
 grind
theorem ZnA {α β:Type} (g:α->β):∀(l:List α) (m:Nat) (a:List β),XU (λ_ x s=>s++[g x]) m l a=a++l.map g
 |[],_,_=>by simp[XU]
 |x::l,m,a=>by simp[XU,ZnA g l]
variable {β:Type}
theorem ZtY (q:Len l) (p:List β->Int->τ) {g:α->β} {step:τ->Option (τ⊕ρ)} {s0:List β}
  (a:∀(k:Nat) (x:α),l[k]?=some x->∀s,s=s0++(l.take k).map g->step (p s (k:Int))=some (.inl (p (s++[g x]) (Wq ((k:Int)+1)))))
  (b:step (p (s0++l.map g) (l.length:Int))=some (.inr R)):Zt step (p s0 0)=some R:=by
 refine Zbl q p (f:=λ_ x s=>s++[g x]) (λ_ _=>True) trivial (λk x s H _ h=>⟨a k x H s (by rw[h,ZnA]),trivial⟩) (λs _ h=>?_);rw[h,ZnA];exact b
noncomputable def sel {ρ:Type} (P:Prop) (a b:ρ):ρ:=match tr P with
 |true=>a
 |false=>b
variable {P:Prop}
theorem Xr (h:P) (a b:ρ):sel P a b=a:=by simp[sel,ZR h]
theorem Y7 (h:¬P) (a b:ρ):sel P a b=b:=by simp[sel,ZT h]
theorem Zhz (P:Prop):sel P true false=tr P:=by
 by_cases h:P
 ·rw[Xr h,ZR h]
 ·rw[Y7 h,ZT h]
def ZeM {α:Type} (l:List α) (P:Nat->α->Prop):Prop:=∀(k:Nat) (x:α),l[k]?=some x->P k x
variable {bad good:ρ}
theorem QF (q:Len l) (P:Nat->α->Prop) {step:Int×Unit->Option ((Int×Unit)⊕ρ)}
  (e:∀(k:Nat) (x:α),l[k]?=some x->k<l.length->(∀(j:Nat) (y:α),j<k->l[j]?=some y->P j y)->(P k x->step ((k:Int),())=some (.inl (Wq ((k:Int)+1),())))/\(¬P k x->step ((k:Int),())=some (.inr bad)))
  (b:ZeM l P->step ((l.length:Int),())=some (.inr good)):Zt step (0,())=some (sel (ZeM l P) good bad):=by
 refine YC l.length (λk v=>v.1=(k:Int)/\∀(j:Nat) (y:α),j<k->l[j]?=some y->P j y) _ ⟨rfl,λj y g=>by omega⟩ ?_ ?_
 ·rintro k ⟨i,⟨⟩⟩ a ⟨H,s⟩
  simp only at H;subst H;have b:l[k]?=some l[k]:=Ua a;obtain⟨d,f⟩:=e k _ b a s;by_cases p:P k l[k]
  ·rw[d p,Zvw q]
   grind
  ·right
   rw[f p,Y7 (λh=>p (h k _ b))]
 ·rintro⟨i,⟨⟩⟩ ⟨H,s⟩
  simp only at H;subst H;have c:ZeM l P:=λk x a=>s k x (Ub.1 a).1 a;rw[b c,Xr c]
theorem ZtW (m n:Nat) (H:m<=n) (X:n<=4611686018427387904) (P:Nat->Prop) {step:Int×Unit->Option ((Int×Unit)⊕ρ)}
  (q:∀k:Nat,m<=k->k<n->(∀j,m<=j->j<k->P j)->(P k->step ((k:Int),())=some (.inl (Wq ((k:Int)+1),())))/\(¬P k->step ((k:Int),())=some (.inr bad)))
  (x:(∀j,m<=j->j<n->P j)->step ((n:Int),())=some (.inr good)):Zt step ((m:Int),())=some (sel (∀j,m<=j->j<n->P j) good bad):=by
 refine YC (n-m) (λk v=>v.1=((m+k:Nat):Int)/\∀j,m<=j->j<m+k->P j) _ ⟨by simp,λj d f=>by omega⟩ ?_ ?_
 ·rintro k ⟨i,⟨⟩⟩ a ⟨l,s⟩
  simp only at l;subst l;obtain⟨d,f⟩:=q (m+k) (by omega) (by omega) s;by_cases p:P (m+k)
  ·rw[d p,QR]
   grind
  ·right
   rw[f p,Y7 (λh=>p (h (m+k) (by omega) (by omega)))]
 ·rintro⟨i,⟨⟩⟩ ⟨l,s⟩
  simp only at l;subst l;have e:m+(n-m)=n:=by omega
  rw[e]at s ⊢;rw[x s,Xr s]
variable {l:List ZH} {f:Bool×Unit}
theorem QV (q:Len l) (p:ZH->Bool) (g:∀x∈l,Jf x f.fst=some (p x)):Z7 l f=some (ZaI p l):=by
 unfold Z7;refine Jh (out:=λi=>i) q (p:=p) (λk x h=>?_) ?_
 ·have H:=(Ub.1 h).1
  simp only[Yi,Zv,h,Bq,show(k:Int)<(l.length:Int)from by omega,Uk,g x (Ud h)];split<;>rfl
 ·simp only[Yi,Ui,Uj]
theorem QB (q:Len l) (p:ZH->Bool) (g:∀x∈l,Jf x f.fst=some (p x)):ZW l f=some (l.any p):=by
 unfold ZW;rw[QV q p g,Bq];congr 1;rw[Ko,Ul,Vr]
theorem Vk {l:List XI} {f:Unit} (q:Len l) (p:XI->Bool) (g:∀x∈l,Zd0 x=some (p x)):Yb l f=some (ZaI p l):=by
 unfold Yb;refine Jh (out:=λi=>i) q (p:=p) (λk x h=>?_) ?_
 ·have H:=(Ub.1 h).1
  simp only[Ym,Zv,h,Bq,show(k:Int)<(l.length:Int)from by omega,Uk,g x (Ud h)];split<;>rfl
 ·simp only[Ym,Ui,Uj]
variable {l:List ZL} {f:ZL×Unit}
theorem Q7 (q:Len l) (p:ZL->Bool) (g:∀x∈l,Q5 x f.fst=some (p x)):Z8 l f=some (ZaI p l):=by
 unfold Z8;refine Jh (out:=λi=>i) q (p:=p) (λk x h=>?_) ?_
 ·have H:=(Ub.1 h).1
  simp only[Yj,Zv,h,Bq,show(k:Int)<(l.length:Int)from by omega,Uk,g x (Ud h)];split<;>rfl
 ·simp only[Yj,Ui,Uj]
theorem QG (q:Len l) (p:ZL->Bool) (g:∀x∈l,Q5 x f.fst=some (p x)):Z0 l f=some (l.any p):=by
 unfold Z0;rw[Q7 q p g,Bq];congr 1;rw[Ko,Ul,Vr]
variable {f:Int×Unit}
theorem Vu (q:Len l) (p:ZL->Bool) (g:∀x∈l,Zc8 x f.fst=some (p x)):Ye l f=some (ZaI p l):=by
 unfold Ye;refine Jh (out:=λi=>i) q (p:=p) (λk x h=>?_) ?_
 ·have H:=(Ub.1 h).1
  simp only[Yq,Zv,h,Bq,show(k:Int)<(l.length:Int)from by omega,Uk,g x (Ud h)];split<;>rfl
 ·simp only[Yq,Ui,Uj]
theorem Va (q:Len l) (p:ZL->Bool) (g:∀x∈l,Zc8 x f.fst=some (p x)):Z9 l f=some (l.any p):=by
 unfold Z9;rw[Vu q p g,Bq];congr 1;rw[Ko,Ul,Vr]
variable {l:List Int} {f:Ze×Unit}
theorem Vb (q:Len l) (p:Int->Bool) (g:∀x∈l,Qq x f.fst=some (p x)):Ya l f=some (ZaI p l):=by
 unfold Ya;refine Jh (out:=λi=>i) q (p:=p) (λk x h=>?_) ?_
 ·have H:=(Ub.1 h).1
  simp only[Yl,Zv,h,Bq,show(k:Int)<(l.length:Int)from by omega,Uk,g x (Ud h)];split<;>rfl
 ·simp only[Yl,Ui,Uj]
theorem QI (q:Len l) (p:Int->Bool) (g:∀x∈l,Qq x f.fst=some (p x)):Z4 l f=some (l.any p):=by
 unfold Z4;rw[Vb q p g,Bq];congr 1;rw[Ko,Ul,Vr]
variable {f:Unit}
theorem JV (q:Len l) (p:Int->Bool) (g:∀x∈l,Zc9 x=some (p x)):YB l f=some (ZaI p l):=by
 unfold YB;refine Jh (out:=λi=>i) q (p:=p) (λk x h=>?_) ?_
 ·have H:=(Ub.1 h).1
  simp only[YQ,Zv,h,Bq,show(k:Int)<(l.length:Int)from by omega,Uk,g x (Ud h)];split<;>rfl
 ·simp only[YQ,Ui,Uj]
theorem Js (q:Len l) (p:Int->Bool) (g:∀x∈l,Zc9 x=some (p x)):Yu l f=some (l.any p):=by
 unfold Yu;rw[JV q p g,Bq];congr 1;rw[Ko,Ul,Vr]
variable {f:ZG×Unit}
theorem QC {l:List Zf} (q:Len l) (p:Zf->Bool) (g:∀x∈l,VX x f.fst=some (p x)):ZX l f=some (ZaI p l):=by
 unfold ZX;refine Jh (out:=λi=>i) q (p:=p) (λk x h=>?_) ?_
 ·have H:=(Ub.1 h).1
  simp only[Yd,Zv,h,Bq,show(k:Int)<(l.length:Int)from by omega,Uk,g x (Ud h)];split<;>rfl
 ·simp only[Yd,Ui,Uj]
theorem Qr {l:List Zf} (q:Len l) (p:Zf->Bool) (g:∀x∈l,VX x f.fst=some (p x)):ZU l f=some (l.any p):=by
 unfold ZU;rw[QC q p g,Bq];congr 1;rw[Ko,Ul,Vr]
theorem XT {l:List Zu} (q:Len l) (p:Zu->Bool) (g:∀x∈l,VY x f.fst=some (p x)):ZP l f=some (ZaI p l):=by
 unfold ZP;refine Jh (out:=λi=>i) q (p:=p) (λk x h=>?_) ?_
 ·have H:=(Ub.1 h).1
  simp only[ZY,Zv,h,Bq,show(k:Int)<(l.length:Int)from by omega,Uk,g x (Ud h)];split<;>rfl
 ·simp only[ZY,Ui,Uj]
theorem XH {l:List Zu} (q:Len l) (p:Zu->Bool) (g:∀x∈l,VY x f.fst=some (p x)):ZN l f=some (l.any p):=by
 unfold ZN;rw[XT q p g,Bq];congr 1;rw[Ko,Ul,Vr]
theorem Zf0 {v:Int} (q:Len l):Xz l v=some (ZaI (λx=>decide (v=x)) l):=by
 unfold Xz;refine Jh (out:=λi=>i) q (λk x h=>?_) ?_
 ·have H:=(Ub.1 h).1
  simp only[Xg,Zv,h,Bq,show(k:Int)<(l.length:Int)from by omega,Uk,Ul];split<;>rfl
 ·simp only[Xg,Ui,Uj]
theorem ZeX {v:Int} (q:Len l):YK l v=some (decide (v∈l)):=by
 unfold YK;rw[Zf0 q,Bq];congr 1;rw[Ko,Ul,Ul,Vr,KN];simp
theorem Y4 {l:List Zj} {f:Int×Unit} (q:Len l) (p:Zj->Bool) (g:∀x∈l,ZfF x f.fst=some (p x)):Z5 l f=some (ZaI p l):=by
 unfold Z5;refine Jh (out:=λi=>i) q (p:=p) (λk x h=>?_) ?_
 ·have H:=(Ub.1 h).1
  simp only[Yg,Zv,h,Bq,show(k:Int)<(l.length:Int)from by omega,Uk,g x (Ud h)];split<;>rfl
 ·simp only[Yg,Ui,Uj]
theorem ZeN {a:Bool} (h:a=true<->b=true):a=b:=by grind
variable {Q:Prop}
theorem Xj (h:P<->Q):tr P=tr Q:=by rw[propext h]
def Inc (l:List Int):Prop:=∀(k:Nat) (x y:Int),l[k]?=some x->l[k+1]?=some y->x<y
def Zhj (l:List Int) (o h:Int):Prop:=∀x∈l,o<=x/\x<=h
variable (l:List Int) (o h:Int)
theorem Zko:allIn l o h=true<->Zhj l o h:=by
 unfold allIn Zhj;rw[Kw];simp only[QD]
theorem Zao:QA l=some (l.length:Int):=rfl
theorem Zam (q:Len l):Qz l=some (tr (Inc l)):=by
 unfold Qz;have b:l.length<=4611686018427387904:=q;by_cases a:l.length=0
 ·have:l=[]:=UC a
  subst this;rw[YF (r:=true) (by rfl)];have a:Inc []:=λk x y h=>by simp at h
  rw[ZR a]
 have:=ZtW (ρ:=Bool) 1 l.length (by omega) b (λk=>∀x y,l[k-1]?=some x->l[k]?=some y->x<y) (step:=λv=>QK l v.1) (bad:=false) (good:=true)
  (λk d f _=>by
   obtain⟨x,H⟩:∃x,l[k-1]?=some x:=⟨_,Ua (by omega)⟩;obtain⟨y,i⟩:∃y,l[k]?=some y:=⟨_,Ua f⟩;have e1:Wq ((k:Int)-1)=((k-1:Nat):Int):=by rw[QR];omega
   simp only[QK,show (k:Int)<(l.length:Int) from by omega,Uk,e1,Zv,H,i,Bq];grind)
  (λ_=>by simp only[QK,Ui,Uj])
 refine(show Zt (λv=>QK l v.1) ((1:Int),())=_ from this).trans ?_;rw[Zhz];congr 1;refine Xj ⟨λh k x y H i=>?_,λh j d f x y H i=>?_⟩
 ·exact h (k+1) (by omega) (Ub.1 i).1 x y (by simpa using H) i
 ·exact h (j-1) x y H (by grind)
def ZfL (l:List Int):Prop:=1<=l.length/\l.length<=4/\Zhj l 0 100000/\Inc l
theorem ZjB (q:Len l):Zgm l=some (tr (ZfL l)):=by
 unfold Zgm;rw[Zao,Bq,Jb,Bq,Zcv l _ _ q,Bq,Zam l q,Bq];have e:tr (ZfL l)=(within (l.length:Int) 1 4&&allIn l 0 100000&&tr (Inc l)):=by
  refine Zm3 ?_;simp only[Up,QD,Zko,Xf,ZfL];grind
 grind
theorem Zi0 (q:Len l):Zfs l=some (tr (ZfL l)):=by
 unfold Zfs;have g:l.length<=4611686018427387904:=q;rw[QF q (λk x=>(0<=x/\x<=100000)/\(0<k->∀ y,l[k-1]?=some y->y<x)) (bad:=false) (good:=decide (1<=l.length/\l.length<=4))
  (λk x H b _=>by
   simp only[Zeo,show(k:Int)<(l.length:Int)from by omega,Uk,Zv,H,Bq,JZ];by_cases c:within x 0 100000=true
   ·rw[Uc c]
    by_cases d:0<k
    ·obtain⟨y,i⟩:∃y,l[k-1]?=some y:=⟨_,Ua (by omega)⟩
     have e1:Wq ((k:Int)-1)=((k-1:Nat):Int):=by rw[QR];omega
     rw[QP,e1,Zv,i,Bq];refine⟨λh=>?_,λh=>?_⟩
     ·grind
     ·rw[Uc]
      rcases Int.lt_or_le y x with a|a
      ·exact absurd ⟨(QD _ _ _).1 c,λ_ z T=>by grind⟩ h
      ·exact a
    ·rw[QQ]
     exact⟨λ_=>rfl,λh=>absurd ⟨(QD _ _ _).1 c,λa=>absurd a d⟩ h⟩
   ·rw[Ue c]
    exact ⟨λh=>absurd ((QD _ _ _).2 h.1) c,λ_=>rfl⟩)
  (λ_=>by
   simp only[Zeo,Ui,Uj];by_cases e:1<=l.length
   ·rw[QP]
    congr 2;grind
   grind)]
 congr 1;refine ZeN ?_;rw[Xf];by_cases h:ZeM l (λk x=>(0<=x/\x<=100000)/\(0<k->∀y,l[k-1]?=some y->y<x))
 ·rw[Xr h,Ul]
  constructor
  ·rintro⟨e,f⟩
   refine⟨e,f,λx H=>?_,λk x y H i=>?_⟩
   ·obtain⟨k,b⟩:=UA.1 H
    exact(h k x b).1
   ·exact(h (k+1) y i).2 (by omega) x (by simpa using H)
  ·intro r
   exact⟨r.1,r.2.1⟩
 ·rw[Y7 h]
  constructor
  ·intro r;cases r
  ·intro r
   refine absurd ?_ h;intro k x b;refine⟨r.2.2.1 x (Ud b),λd y i=>?_⟩;exact r.2.2.2 (k-1) y x i (by grind)
def Jk (t:ZH):Prop:=ZfL (GT t)/\ZfL (Gq t)/\(Gr t).length=(GT t).length*(Gq t).length/\Zhj (Gr t) (-1000000) 1000000
def ZBD (t:ZH):Prop:=Len (GT t)/\Len (Gq t)/\Len (Gr t)
theorem ZfL.mul {a b:List Int} (n:ZfL a) (h:ZfL b):a.length*b.length<=16:=by
 have d:=n.2.1;have f:=h.2.1
 calc a.length*b.length<=4*4:=Kk d f
  _=16:=rfl
theorem Zt1 {a b:List Int} (n:ZfL a) (h:ZfL b):Wq ((a.length:Int)*(b.length:Int))=((a.length*b.length:Nat):Int):=by
 have:=n.mul h;have e:(a.length:Int)*(b.length:Int)=((a.length*b.length:Nat):Int):=by simp
 rw[e,QR]
variable (t:ZH)
theorem ZnH (h:ZBD t):ZgO t=some (tr (Jk t)):=by
 unfold ZgO;rw[ZjB _ h.1,Bq];by_cases d:ZfL (GT t)
 ·rw[Uc (ZR d),ZjB _ h.2.1,Bq]
  by_cases f:ZfL (Gq t)
  ·rw[Uc (ZR f),Zt1 d f]
   by_cases g:(Gr t).length=(GT t).length*(Gq t).length
   ·rw[Uc (by rw[g]),Zcv _ _ _ h.2.2,Bq]
    congr 1;refine ZeN ?_;rw[Zko,Xf];exact⟨λi=>⟨d,f,g,i⟩,λi=>i.2.2.2⟩
   ·rw[QQ,ZT (λr=>g r.2.2.1)]
  ·rw[Ue (by rw[ZT f];simp),ZT (λr=>f r.2.1)]
 ·rw[Ue (by rw[ZT d];simp),ZT (λr=>d r.1)]
theorem Zom (h:ZBD t):Zg3 t=some (tr (Jk t)):=by
 unfold Zg3;rw[Zi0 _ h.1,Bq];by_cases d:ZfL (GT t)
 ·rw[Uc (ZR d),Zi0 _ h.2.1,Bq]
  by_cases f:ZfL (Gq t)
  ·rw[Uc (ZR f),Zt1 d f]
   by_cases g:(Gr t).length=(GT t).length*(Gq t).length
   ·rw[Uc (by rw[g]),QF h.2.2 (λk x=>-1000000<=x/\x<=1000000) (bad:=false) (good:=true)
     (λk x l H _=>by
      simp only[Zem,show (k:Int)<((Gr t).length:Int) from by omega,Uk,Zv,l,Bq,JZ,QD];grind)
     (λ_=>by simp only[Zem,Ui,Uj]),Zhz]
    congr 1;refine Xj ⟨λi=>⟨d,f,g,λx l=>?_⟩,λi k x l=>i.2.2.2 x (Ud l)⟩;obtain⟨k,H⟩:=UA.1 l;exact i k x H
   ·rw[QQ,ZT (λr=>g r.2.2.1)]
  ·rw[Ue (by rw[ZT f];simp),ZT (λr=>f r.2.1)]
 ·rw[Ue (by rw[ZT d];simp),ZT (λr=>d r.1)]
variable (x:Int)
theorem ZqF (l:List Int) (q:Len (x::l)):V7 (x::l)=some (l.foldl min x):=by
 unfold V7;have a:(x::l).length<=4611686018427387904:=q;have e1:¬(((x::l).length:Int)<1):=by grind
 have f:atI (x::l) (0:Int)=some x:=rfl;rw[Ue e1,f,Bq];refine YC l.length (λk v=>v.1=(l.take k).foldl min x/\v.2.1=(((k+1:Nat)):Int)) _ ⟨by simp,rfl⟩ ?_ ?_
 ·rintro k ⟨m,i,⟨⟩⟩ b ⟨R,h⟩
  simp only at R h;subst R;subst h;have c:l[k]?=some l[k]:=Ua b;have H:(x::l)[k+1]?=some l[k]:=by simp
  simp only[VO,Zv,H,Bq,show((k+1:Nat):Int)<((x::l).length:Int)from by simp;omega,Uk];refine .inl ⟨_,rfl,?_,?_⟩
  ·rw[XF c,List.foldl_append];rfl
  ·simp only[Uf]at a
   show Wq (((k+1:Nat):Int)+1)=((k+1+1:Nat):Int);rw[QR];omega
 ·rintro⟨m,i,⟨⟩⟩ ⟨R,h⟩
  simp only at R h;subst R;subst h;rw[Ur];simp only[VO,show ¬(((l.length+1:Nat):Int)<((x::l).length:Int))from by simp,Uj]
theorem ZkJ (l:List Int):l.foldl min x<0<->x<0\/∃y∈l,y<0:=by
 induction l generalizing x with
 |nil=>simp
 |cons y r i =>
  simp only[List.foldl_cons,i,Us,exists_eq_or_imp];grind
def ZcE (l:List ZH) (pos:Bool):Prop:=l.length=2/\∀t∈l,Jk t/\(pos=true->∀v∈Gr t,0<=v)
theorem Jk.some {t:ZH} (h:Jk t):∃x l,Gr t=x::l:=by
 have d:=h.1.1;have f:=h.2.1.1;have g:=h.2.2.1;have:1*1<=(GT t).length*(Gq t).length:=Kk d f;cases a:Gr t with
 |nil=>grind
 |cons x l=>exact⟨x,l,rfl⟩
variable (pos:Bool)
theorem Zjn (h:ZBD t):Jf t pos=some (! tr (Jk t/\(pos=true->∀v∈Gr t,0<=v))):=by
 unfold Jf;rw[ZnH _ h,Bq];by_cases d:Jk t
 ·rw[Uc (ZR d)]
  cases pos
  ·rw[Ue (by simp),ZR ⟨d,λe=>by cases e⟩];rfl
  ·obtain⟨x,l,a⟩:=d.some
   have n:=h.2.2;rw[Uc rfl,a];rw[a]at n;rw[ZqF x l n,Bq];congr 1;refine ZeN ?_;rw[Ul,ZkJ,UO,<-Bool.not_eq_true,Xf];constructor
   ·rintro(r|⟨y,i,r⟩) ⟨_,H⟩
    ·have:=H rfl x (by simp);omega
    grind
   grind
 ·rw[Ue (by rw[ZT d];simp),ZT (λr=>d r.1)];rfl
def ZzM (l:List ZH):Prop:=Len l/\∀t∈l,ZBD t
theorem ZeP (l:List ZH) (pos:Bool) (h:ZzM l):Zbm l pos=some (tr (ZcE l pos)):=by
 unfold Zbm;by_cases f:l.length=2
 ·rw[QP,QB h.1 (λt=>! tr (Jk t/\(pos=true->∀v∈Gr t,0<=v))) (λt H=>Zjn t pos (h.2 t H)),Bq]
  congr 1;refine ZeN ?_;rw[UO,List.any_eq_false,Xf];simp only[UO,Bool.not_eq_false,Xf,Bool.not_eq_true];exact⟨λr=>⟨f,r⟩,λr=>r.2⟩
 ·rw[QQ,ZT (λr=>f r.1)]
variable {l:List α}
theorem ZhV (p:Nat->τ) (P:Nat->α->Prop) {step:τ->Option (τ⊕ρ)}
  (q:∀(k:Nat) (x:α),l[k]?=some x->k<l.length->(∀(j:Nat) (y:α),j<k->l[j]?=some y->P j y)->(P k x->step (p k)=some (.inl (p (k+1))))/\(¬P k x->step (p k)=some (.inr bad)))
  (a:ZeM l P->step (p l.length)=some (.inr good)):Zt step (p 0)=some (sel (ZeM l P) good bad):=by
 refine YC l.length (λk v=>v=p k/\∀(j:Nat) (y:α),j<k->l[j]?=some y->P j y) _ ⟨rfl,λj y g=>by omega⟩ ?_ ?_
 ·rintro k v H ⟨rfl,s⟩
  have a:l[k]?=some l[k]:=Ua H;obtain⟨e,f⟩:=q k _ a H s;by_cases b:P k l[k]
  ·refine .inl ⟨_,e b,rfl,λj y g i=>?_⟩
   by_cases c:j<k
   ·exact s j y c i
   ·have:j=k:=by omega
    subst this;rw[a]at i;injection i with i;subst i
    exact b
  ·right
   rw[f b,Y7 (λh=>b (h k _ a))]
 ·rintro v ⟨rfl,s⟩
  have d:ZeM l P:=λk x H=>s k x (Ub.1 H).1 H;rw[a d,Xr d]
theorem Za1 (p:Nat->τ) {step:τ->Option (τ⊕ρ)}
  (q:∀(k:Nat) (x:α),l[k]?=some x->k<l.length->step (p k)=some (.inl (p (k+1)))) (H:step (p l.length)=some (.inr good)):Zt step (p 0)=some good:=by
 have:=ZhV (l:=l) p (λ_ _=>True) (step:=step) (bad:=good) (good:=good) (λk x d f _=>⟨λ_=>q k x d f,λh=>absurd trivial h⟩) (λ_=>H);rw[this,Xr (show ZeM l (λ_ _=>True)from λ_ _ _=>trivial)]
theorem ZnX (X:n<=4611686018427387904) (P:Nat->Prop) {step:Int×Unit->Option ((Int×Unit)⊕ρ)}
  (q:∀k:Nat,k<n->(P k->step ((k:Int),())=some (.inl (Wq ((k:Int)+1),())))/\(¬P k->step ((k:Int),())=some (.inr bad)))
  (l:(∀j,j<n->P j)->step ((n:Int),())=some (.inr good)):Zt step ((0:Int),())=some (sel (∀j,j<n->P j) good bad):=by
 have:=ZtW (ρ:=ρ) 0 n (by omega) X P (step:=step) (bad:=bad) (good:=good) (λk _ h _=>q k h) (λh=>l (λj b=>h j (by omega) b));refine(show Zt step ((0:Int),())=_ from this).trans ?_;congr 1;have e:(∀j,0<=j->j<n->P j)<->(∀j,j<n->P j):=⟨λh j b=>h j (by omega) b,λh j _ b=>h j b⟩;rw[propext e]
variable {t:Ty} {l:List t.den}
theorem YV (h:sm (.sl t) l):Len l:=by
 have d:(l.length:Int)<=1048576:=h.1;show l.length<=4611686018427387904;omega
variable {s:List UInt8}
theorem Zgz (h:sm .str s):s.length<=4611686018427387904:=by
 have d:(s.length:Int)<=1048576:=h;omega
variable {x:t.den}
theorem Zoj (h:sm (.sl t) l) (H:x∈l):sm t x:=h.2 x H
theorem Zg1 (h:sm (.sl t) l) (H:l[k]?=some x):sm t x:=h.2 x (Ud H)
theorem ZK (h:sm (.sl t) l):l.length<=1048576:=by
 have d:(l.length:Int)<=1048576:=h.1;omega
variable {t:ZH}
theorem Zvg (h:sm Zbi t):ZBD t:=⟨YV (t:=.int .i64) h.1,YV (t:=.int .i64) h.2.1,YV (t:=.int .i64) h.2.2.1⟩
theorem Zid {l:List ZH} (h:sm (.sl Zbi) l):ZzM l:=⟨YV h,λt r=>Zvg (Zoj h r)⟩
theorem Zkf (t:ZH) (h:ZBD t):∃r,Zde t=some r/\(Jk t->r.2=0/\(r.1.1<0<->∃v∈Gr t,v<0))/\(¬Jk t->r.2=1):=by
 unfold Zde;rw[Zom _ h,Bq];by_cases d:Jk t
 ·rw[Uc (ZR d)]
  obtain⟨x,l,a⟩:=d.some;have b:(x::l).length<=4611686018427387904:=by rw[<-a];exact h.2.2
  have f:atI (Gr t) (0:Int)=some x:=by rw[a];rfl
  rw[f,Bq];have:=Za1 (l:=l) (ρ:=Zz×Int) (λk=>((((k+1:Nat)):Int),(l.take k).foldl min x,(l.take k).foldl max x,())) (step:=λv=>JD t v.1 v.2.1 v.2.2.1) (good:=((l.foldl min x,l.foldl max x,()),0))
   (λk y i c=>by
    have H:(x::l)[k+1]?=some y:=by simpa using i
    simp only[Uf] at b;simp only[JD,a,Zv,H,Bq,show ((k+1:Nat):Int)<((x::l).length:Int) from by simp;omega,Uk];rw[XF i,List.foldl_append,List.foldl_append,QR];rfl)
   (by
    simp only[JD,a,Ur,show ¬(((l.length+1:Nat):Int)<((x::l).length:Int)) from by simp,Uj])
  refine⟨_,this,λ_=>⟨rfl,?_⟩,λX=>absurd d X⟩;rw[a];refine(ZkJ x l).trans ?_;simp
 ·rw[Ue (by rw[ZT d];simp)]
  exact⟨_,rfl,λX=>absurd X d,λ_=>rfl⟩
theorem Ze1 (l:List ZH) (pos:Bool) (h:ZzM l):YN l pos=some (tr (ZcE l pos)):=by
 unfold YN;by_cases f:l.length=2
 ·rw[QP,QF h.1 (λk t=>Jk t/\(pos=true->∀ v∈Gr t,0<=v)) (bad:=false) (good:=true)
   (λk t x c _=>by
    obtain⟨r,F,d,g⟩:=Zkf t (h.2 t (Ud x));simp only[ZcJ,show(k:Int)<2 from by omega,Uk,Zv,x,Bq,F];by_cases b:Jk t
    ·obtain⟨e1,E⟩:=d b
     rw[Uc e1];cases pos
     ·simp only[UN,Uj]
      exact⟨λ_=>trivial,λX=>absurd ⟨b,λe=>by cases e⟩ X⟩
     ·simp only[Uk]
      refine⟨λH=>?_,λX=>?_⟩
      ·rw[Ue]
       intro a;obtain⟨v,i,D⟩:=E.1 a;have:=H.2 trivial v i;omega
      ·rw[Uc]
       apply Uz;intro a;refine X ⟨b,λ_ v i=>?_⟩;exact Int.not_lt.1 λD=>a (E.2 ⟨v,i,D⟩)
    ·have e1:=g b
     rw[Ue (by rw[e1];decide)];exact ⟨λH=>absurd H.1 b,λ_=>rfl⟩)
   (λ_=>by simp only[ZcJ,f];rfl),Zhz]
  congr 1;refine Xj ⟨λH=>⟨f,λt b=>?_⟩,λH k t c=>H.2 t (Ud c)⟩;obtain⟨k,c⟩:=UA.1 b;exact H k t c
 ·rw[QQ,ZT (λH=>f H.1)]
def Zfp (l:List XI):List (List UInt8):=l.map GE
def ZmT (l:List XI):Nat:=l.countP (λp=>Gg p)
def Zq2 (n k:Nat) (p:XI):Prop:=(0<=Hg p/\Hg p<=500)/\(k+1=n->Hp p=2/\Hg p=0/\Gg p=false)/\(k+1<n->Hp p=1)
def Zjr (l:List XI):Prop:=2<=l.length/\l.length<=5/\V4 (Zfp l) l.length/\ZeM l (Zq2 l.length)
theorem ZnJ (l:List XI) (h:sm (.sl ZqP) l):ZgP l=some (tr (Zjr l)):=by
 unfold ZgP;have q:=ZK h;have:=ZhV (l:=l) (ρ:=Bool) (λk=>((Zfp l).take k,(k:Int),())) (Zq2 l.length) (step:=λv=>JN l v.1 v.2.1) (bad:=false) (good:=tr (2<=l.length/\l.length<=5/\V4 (Zfp l) l.length))
  (λk p x j _=>by
   have X:(Zfp l)[k]?=some (GE p):=by simp[Zfp,x]
   have e1:Wq ((l.length:Int)-1)=((l.length-1:Nat):Int):=by rw[QR];omega
   simp only[JN,show(k:Int)<(l.length:Int)from by omega,Uk,Zv,x,Bq,e1];rw[Zk (by simp only[Uo,UV,Zfp,U5];omega),XF X,QR];unfold Zq2;by_cases t:(k:Int)=((l.length-1:Nat):Int)
   ·rw[Uc t]
    have e:k+1=l.length:=by omega
    constructor
    ·rintro⟨_,g,_⟩
     obtain⟨a,b,c⟩:=g e;rw[Uc a,Uc b,Ue (by rw[c];simp)];rfl
    ·intro r
     split
     ·split
      ·split
       ·rfl
       ·rename_i a b c
        exact absurd ⟨by omega,λ_=>⟨a,b,by simpa using c⟩,λd=>by omega⟩ r
      ·rfl
     ·rfl
   ·rw[Ue t,Jb]
    have e:k+1<l.length:=by omega
    simp only[Bq,QD];constructor
    ·rintro⟨f,_,i⟩
     rw[Uc (i e),Uc f];rfl
    ·intro r
     split
     ·split
      ·rename_i a b
       exact absurd ⟨b,λd=>by omega,λ_=>a⟩ r
      ·rfl
     ·rfl)
  (λH=>by
   have E:(Zfp l).take l.length=Zfp l:=by rw[show l.length=(Zfp l).length by simp[Zfp],Ur]
   simp only[JN,Ui,Uj,E,Jb,Bq,show Zan l=some (l.length:Int)from rfl];have n:(Zfp l).length=l.length:=by simp[Zfp]
   by_cases w:within (l.length:Int) 2 5=true
   ·rw[Uc w,VK _ (by rw[n];omega),Bq,n]
    rw[QD]at w;congr 2;exact Xj ⟨λr=>⟨by omega,by omega,r⟩,λr=>r.2.2⟩
   ·rw[Ue w,ZT]
    intro r;exact w ((QD _ _ _).2 (by omega)))
 refine(show Zt (λv=>JN l v.1 v.2.1) (([]:List (List UInt8)),(0:Int),())=_ from this).trans ?_;congr 1;refine ZeN ?_;rw[Xf];by_cases H:ZeM l (Zq2 l.length)
 ·rw[Xr H,Xf]
  exact⟨λr=>⟨r.1,r.2.1,r.2.2,H⟩,λr=>⟨r.1,r.2.1,r.2.2.1⟩⟩
 ·rw[Y7 H]
  exact⟨λr=>(by cases r),λr=>absurd r.2.2.2 H⟩
variable {n:Nat}
theorem Zhm (h:n<=1048576:=by omega) (d:1<=n:=by omega):Wq ((n:Int)-1)=((n-1:Nat):Int):=by rw[QR];omega
theorem Xd (h:n<=1048576:=by omega):Wq ((n:Int)+1)=((n+1:Nat):Int):=by rw[QR];omega
variable {l:List XI}
theorem ZjE:s ∉ (Zfp l).take k<->∀(j:Nat) (q:XI),j<k->l[j]?=some q->GE q≠s:=by
 constructor
 ·intro h j q b a e
  refine h (UA.2 ⟨j,?_⟩);rw[UB,Uc b];simp[Zfp,a,e]
 ·intro h R
  obtain⟨j,b⟩:=UA.1 R;rw[UB]at b;split at b
  ·rename_i c
   simp only[Zfp,UL,Ku]at b;obtain⟨q,a,e⟩:=b;exact h j q c a e
  ·cases b
variable (c:Zq)
theorem Zoo (h:sm (.sl ZqP) (K6 c)):Zg5 c=some (sel (Zjr (K6 c)) ((ZmT (K6 c):Int),true) ((0:Int),false)):=by
 unfold Zg5;have N:=ZK h;by_cases y:((K6 c).length:Int)<2
 ·rw[Uc y,Y7 (λr=>by have:=r.1;omega)]
 by_cases D:(5:Int)<((K6 c).length:Int)
 ·rw[Ue y,Uc D,Y7 (λr=>by have:=r.2.1;omega)]
 rw[Ue y,Ue D];have e1:Wq (((K6 c).length:Int)-1)=(((K6 c).length-1:Nat):Int):=Zhm N;have:=ZhV (l:=K6 c) (ρ:=Int×Bool) (λk=>((((K6 c).take k).countP (λp=>Gg p):Int),(k:Int),()))
  (λk p=>(ZaK (GE p)=true/\∀(j:Nat) (q:XI),j<k->(K6 c)[j]?=some q->GE q≠GE p)/\Zq2 (K6 c).length k p) (step:=λv=>J3 c v.1 v.2.1) (bad:=((0:Int),false)) (good:=((ZmT (K6 c):Int),true))
  (λk p C K _=>by
   have I:((K6 c).take k).countP (λp=>Gg p)<=5:=by
    have L:=KV (p:=λp=>Gg p) (l:=(K6 c).take k);rw[Uo]at L;omega
   have g:((K6 c).take (k+1)).countP (λp=>Gg p)=((K6 c).take k).countP (λp=>Gg p)+if Gg p=true then 1 else 0:=by
    rw[XF C,KA];simp[K1]
   have z:(GE p).length<=4611686018427387904:=Zgz (Zg1 h C).1;have R:∀(v:Int),VH c v (k:Int) p (k:Int)=sel (ZaK (GE p)=true/\Zq2 (K6 c).length k p) (some (Sum.inr (Sum.inl (if Gg p=true then Wq (v+1)else v,((k+1:Nat):Int),())))) (some (Sum.inr (Sum.inr (0,false)))):=by
    intro v;simp only[VH,Ui,Uj,Zcf _ z,JZ,Bq,e1,Xd (show k<=1048576 by omega),QD];unfold Zq2;by_cases X:ZaK (GE p)=true
    ·by_cases G:0<=Hg p/\Hg p<=500
     ·by_cases t:k+1=(K6 c).length
      ·have E:(k:Int)=(((K6 c).length-1:Nat):Int):=by omega
       have w:¬((k:Int)<(((K6 c).length-1:Nat):Int)):=by omega
       have x:¬(k+1<(K6 c).length):=by omega
       rw[Uc X,Uc G,Uc E];by_cases a:Hp p=2
       ·by_cases b:Hg p=0
        ·by_cases d:Gg p=true
         ·rw[Uc a,Uc b,Uc d,Y7]
          rintro⟨_,_,H,_⟩;have:=(H t).2.2;rw[d]at this;cases this
         ·rw[Uc a,Uc b,Ue d,Ue w,Ue d,Xr ⟨X,G,λ_=>⟨a,b,by simpa using d⟩,λH=>absurd H x⟩]
          simp[d]
        ·rw[Uc a,Ue b,Y7]
         rintro⟨_,_,H,_⟩;exact b (H t).2.1
       ·rw[Ue a,Y7]
        rintro⟨_,_,H,_⟩;exact a (H t).1
      ·have E:¬(k:Int)=(((K6 c).length-1:Nat):Int):=by omega
       have w:(k:Int)<(((K6 c).length-1:Nat):Int):=by omega
       have x:k+1<(K6 c).length:=by omega
       rw[Uc X,Uc G,Ue E,Uc w];by_cases a:Hp p=1
       ·rw[Uc a,Xr ⟨X,G,λH=>absurd H t,λ_=>a⟩]
        by_cases d:Gg p=true
        ·rw[Uc d,Uc d]
        ·rw[Ue d,Ue d]
       ·rw[Ue a,Y7]
        rintro⟨_,_,_,H⟩;exact a (H x)
     ·rw[Uc X,Ue G,Y7 (λr=>G r.2.1)]
    ·rw[Ue X,Y7 (λr=>X r.1)]
   have i:∀(v:Int) (good:(Int×Int×Unit)⊕(Int×Bool)),((∀(j:Nat) (q:XI),j<k->(K6 c)[j]?=some q->GE q≠GE p)->VH c v (k:Int) p (k:Int)=some (.inr good))->
     Zt (λv'=>VH c v (k:Int) p v'.1) ((0:Int),())=some (sel (∀j,j<k->∀q,(K6 c)[j]?=some q->GE q≠GE p) good (.inr (0,false))):=by
    intro v good M;refine ZnX k (by omega) (λj=>∀q,(K6 c)[j]?=some q->GE q≠GE p) (λj n=>?_) (λr=>M (λj q n f=>r j n q f));obtain⟨q,f⟩:∃q,(K6 c)[j]?=some q:=⟨_,Ua (by omega)⟩;simp only[VH,show(j:Int)<(k:Int)from by omega,Uk,Zv,f,Bq];refine⟨λr=>by rw[Ue (r q rfl)],λr=>?_⟩;rw[Uc];apply Uz;intro B;exact r (λQ m=>by injection m with m;subst m;exact B)
   simp only[J3,show(k:Int)<((K6 c).length:Int)from by omega,Uk,Zv,C,Bq];constructor
   ·rintro⟨⟨a,b⟩,d⟩
    rw[i _ (.inl (((((K6 c).take (k+1)).countP (λp=>Gg p):Nat):Int),((k+1:Nat):Int),())) (λ_=>by
     rw[R,Xr ⟨a,d⟩,g];by_cases u:Gg p=true
     ·rw[Uc u,Uc u,Xd]
     ·rw[Ue u,Ue u];rfl),Xr (λj n q f=>b j q n f)]
   ·intro r
    rw[i _ (.inr (0,false)) (λX=>by
     rw[R,Y7 (λH=>r ⟨⟨H.1,X⟩,H.2⟩)])]
    by_cases F:∀j,j<k->∀q,(K6 c)[j]?=some q->GE q≠GE p
    ·rw[Xr F]
    ·rw[Y7 F])
  (λ_=>by simp only[J3,Ui,Uj,Ur];rfl)
 refine(show Zt (λv=>J3 c v.1 v.2.1) ((0:Int),(0:Int),())=_ from this).trans ?_;congr 1;have e:ZeM (K6 c) (λk p=>(ZaK (GE p)=true/\∀(j:Nat) (q:XI),j<k->(K6 c)[j]?=some q->GE q≠GE p)/\Zq2 (K6 c).length k p)<->Zjr (K6 c):=by
  constructor
  ·intro A
   refine⟨by omega,by omega,λj s n J=>?_,λk p o=>(A k p o).2⟩;simp only[Zfp,UL,Ku]at J;obtain⟨q,f,rfl⟩:=J;exact⟨(A j q f).1.1,ZjE.2 (A j q f).1.2⟩
  ·intro r k p o
   have K:=(Ub.1 o).1;have X:=r.2.2.1 k (GE p) K (by simp[Zfp,o]);exact⟨⟨X.1,ZjE.1 X.2⟩,r.2.2.2 k p o⟩
 rw[propext e]
def ZpX (l:List XI) (i:Int):Bool:=match l[i.toNat]? with
 |some p=>Gg p
 |none=>false
def Zlb (c:Zq) (a:ZL):Prop :=
  (0<=Gi a/\Gi a<=((K6 c).length:Int)-2)/\(0<=Gn a/\Gn a<=((K6 c).length:Int)-1)/\
  ((K9 a=1/\ZpX (K6 c) (Gi a)=false/\Gn a=((K6 c).length:Int)-1/\(1<=Gx a/\Gx a<=3)/\ZcE (Gy a) true/\ZcE (GO a) true)\/
   ((K9 a=2\/K9 a=3)/\ZpX (K6 c) (Gi a)=true/\Gn a=((K6 c).length:Int)-1/\Gx a=0/\ZcE (Gy a) true/\ZcE (GO a) true)\/
   ((K9 a=4\/K9 a=5)/\ZpX (K6 c) (Gi a)=true/\Gn a<((K6 c).length:Int)-1/\ZpX (K6 c) (Gn a)=false/\Gx a=0/\ZcE (Gy a) false/\(GO a).length=0))
theorem Zlb.kind {c:Zq} {a:ZL} (h:Zlb c a):1<=K9 a/\K9 a<=5:=by
 rcases h.2.2 with h|h|h
 ·have:=h.1;omega
 ·have:=h.1;omega
 ·have:=h.1;omega
variable {m:Option Bool}
theorem Qp {_:Decidable P} (R:P->m=some (tr Q)):(if P then m else some false)=some (tr (P/\Q)):=by
 by_cases h:P
 ·rw[Uc h,R h];congr 1;exact Xj ⟨λq=>⟨h,q⟩,λq=>q.2⟩
 ·rw[Ue h,ZT (λq=>h q.1)]
theorem Zgf {_:Decidable P} (R:¬P->m=some (tr Q)):(if P then some false else m)=some (tr (¬P/\Q)):=by
 by_cases h:P
 ·rw[Uc h,ZT (λq=>q.1 h)]
 ·rw[Ue h,R h];congr 1;exact Xj ⟨λq=>⟨h,q⟩,λq=>q.2⟩
theorem ZbT (h:b=true<->P):some b=some (tr P):=by rw[Zm3 h]
theorem ZeO (h:m=some (tr P)) (q:P<->Q):m=some (tr Q):=by rw[h,propext q]
theorem ZpE (h:¬Q):(some false:Option Bool)=some (tr Q):=by rw[ZT h]
theorem Zdj (h:m=some (tr P)):(m.bind λb=>some b)=some (tr P):=by rw[h];rfl
theorem YO {M:Option Bool} (h:m=some (tr P)) (f:P->M=some (tr Q)):(m.bind λb=>if b=true then M else some false)=some (tr (P/\Q)):=by
 rw[h,Bq];by_cases g:P
 ·rw[Uc (ZR g),f g];congr 1;exact Xj ⟨λq=>⟨g,q⟩,λq=>q.2⟩
 ·rw[Ue (by rw[ZT g];simp),ZT (λq=>g q.1)]
theorem Ztm {M:Option Bool} (h:m=some (tr P)) (f:¬P->M=some (tr Q)):(m.bind λb=>if b=true then some false else M)=some (tr (¬P/\Q)):=by
 rw[h,Bq];by_cases g:P
 ·rw[Uc (ZR g),ZT (λq=>q.1 g)]
 ·rw[Ue (by rw[ZT g];simp),f g];congr 1;exact Xj ⟨λq=>⟨g,q⟩,λq=>q.2⟩
theorem QT (n a b:Int):ZV n a b=some (tr (a<=n/\n<=b)):=by rw[JZ];exact ZbT (QD _ _ _)
theorem Qs (n a b:Int):Z6 n a b=some (tr (a<=n/\n<=b)):=by rw[Jb];exact ZbT (QD _ _ _)
theorem Zw2 (k:0<=i) (d:i<l.length:=by omega):∃p,atI l i=some p/\ZpX l i=Gg p:=by
 obtain⟨p,f,g⟩:=Zjv k d;exact⟨p,f,by simp[ZpX,g]⟩
variable (a:ZL)
theorem ZoZ (s:sm (.sl ZqP) (K6 c)) (L:sm (.sl Zbi) (Gy a)) (w:sm (.sl Zbi) (GO a)) (u:2<=(K6 c).length):Zh6 c a=some (tr (Zlb c a)):=by
 unfold Zh6;have v:=ZK s;have e1:Wq (((K6 c).length:Int)-1)=((K6 c).length:Int)-1:=QR;have E:Wq (((K6 c).length:Int)-1-1)=((K6 c).length:Int)-2:=by rw[QR];omega
 rw[e1,E];refine ZeO (YO (QT _ _ _) (λo=>YO (QT _ _ _) (λz=>?_))) (Q:=Zlb c a) (P:=(0<=Gi a/\Gi a<=((K6 c).length:Int)-2)/\(0<=Gn a/\Gn a<=((K6 c).length:Int)-1)/\Zlb c a) ⟨λr=>r.2.2,λr=>⟨r.1,r.2.1,r⟩⟩;obtain⟨p,d,H⟩:=Zw2 (l:=K6 c) o.1;rw[d,Bq];have F:=Zid L;have g:=Zid w;have t:∀b,(YN (Gy a) b).bind (λx=>if x=true then(YN (GO a) b).bind (λy=>some y)else some false)=some (tr (ZcE (Gy a) b/\ZcE (GO a) b)):=λb=>YO (Ze1 _ _ F) (λ_=>Zdj (Ze1 _ _ g));have T:(YN (Gy a) false).bind (λx=>if x=true then some (Decidable.decide (((GO a).length:Int)=(0:Int)))else some false)=some (tr (ZcE (Gy a) false/\(GO a).length=0)):=YO (Ze1 _ _ F) (λ_=>ZbT (by rw[Ul];omega));unfold Zlb;rw[H];by_cases k1:K9 a=1
 ·simp only[k1,Uk]
  refine ZeO (Zgf (λi=>Qp (λh=>YO (QT _ _ _) (λ_=>t true)))) ?_;grind
 by_cases K:K9 a=2
 ·simp only[K,Uk,Int.reduceEq,Uj]
  refine ZeO (Qp (λi=>Qp (λh=>Qp (λ_=>t true)))) ?_;grind
 by_cases j:K9 a=3
 ·simp only[j,Uk,Int.reduceEq,Uj]
  refine ZeO (Qp (λi=>Qp (λh=>Qp (λ_=>t true)))) ?_;grind
 have k:(if Gg p=true then(if Gn a<((K6 c).length:Int)-1 then(atI (K6 c) (Gn a)).bind (λX=>if Gg X=true then some false else if Gx a=0 then(YN (Gy a) false).bind (λx=>if x=true then some (Decidable.decide (((GO a).length:Int)=(0:Int)))else some false)else some false)else some false)else some false) =
   some (tr (Gg p=true/\Gn a<((K6 c).length:Int)-1/\ZpX (K6 c) (Gn a)=false/\Gx a=0/\ZcE (Gy a) false/\(GO a).length=0)):=by
  refine Qp (λ_=>Qp (λh=>?_));obtain⟨q,e,f⟩:=Zw2 (l:=K6 c) z.1;rw[e,Bq,f];refine ZeO (Zgf (λ_=>Qp (λ_=>T))) ?_;simp only[Bool.not_eq_true]
 by_cases m:K9 a=4
 ·simp only[m,Uk,Int.reduceEq,Uj]
  refine ZeO k ?_;grind
 by_cases n:K9 a=5
 ·simp only[n,Uk,Int.reduceEq,Uj]
  refine ZeO k ?_;grind
 ·simp only[k1,K,j,m,n,Uj]
  refine ZpE ?_;grind
def ZjT (l:List XI):Int:=ZaI (λp=>Gg p) l
theorem ZkL (h:sm (.sl ZqP) (K6 c)):ZdZ c=some (ZjT (K6 c)):=by
 unfold ZdZ;rw[Vk (YV h) (λp=>Gg p) (λp _=>rfl),Bq];rfl
theorem Zdk (h:sm (.sl ZqP) (K6 c)):Zbd c=some (((K6 c).length:Int)-1):=by
 have q:=ZK h;show some (Wq (((K6 c).length:Int)-1))=_;rw[QR]
theorem ZfO (i:Int) (h:sm (.sl ZqP) (K6 c)):Zat c i=some (tr (0<=i/\i<=((K6 c).length:Int)-2)):=by
 have q:=ZK h;unfold Zat;rw[Zdk c h,Bq,QR];refine ZeO (Zdj (Qs _ _ _)) ?_;omega
def ZxT (c:Zq) (a:ZL):Prop :=
 ((K9 a=4\/K9 a=5)/\Gx a=0/\(GO a).length=0/\ZcE (Gy a) false/\Gi a=ZjT (K6 c)/\0<=Gi a/\(0<=Gn a/\Gn a<=((K6 c).length:Int)-2)/\Gn a≠Gi a)\/
 (¬(K9 a=4\/K9 a=5)/\ZcE (Gy a) true/\ZcE (GO a) true/\Gn a=((K6 c).length:Int)-1/\(0<=Gi a/\Gi a<=((K6 c).length:Int)-2)/\
  ((K9 a=1/\ZpX (K6 c) (Gi a)=false/\(1<=Gx a/\Gx a<=3))\/((K9 a=2\/K9 a=3)/\ZpX (K6 c) (Gi a)=true/\Gx a=0)))
theorem ZnK (k:Int):ZgR k=some (tr (k=4\/k=5)):=by
 unfold ZgR;split
 ·rename_i h;rw[ZR (.inl h)]
 ·rename_i h
  exact ZbT (by rw[Ul];omega)
theorem Zqc (g:sm (.sl ZqP) (K6 c)) (L:sm (.sl Zbi) (Gy a)) (w:sm (.sl Zbi) (GO a)):Zd1 c a=some (tr (ZxT c a)):=by
 unfold Zd1;have F:=Zid L;have b:=Zid w;rw[ZnK,Bq];by_cases H:K9 a=4\/K9 a=5
 ·rw[Uc (ZR H)]
  refine ZeO (Qp (λ_=>Qp (λ_=>YO (ZeP _ _ F) (λ_=>?_)))) (P:=Gx a=0/\((GO a).length:Int)=0/\ZcE (Gy a) false/\(Gi a=ZjT (K6 c)/\0<=Gi a/\(0<=Gn a/\Gn a<=((K6 c).length:Int)-2)/\Gn a≠Gi a)) ?_
  ·rw[ZkL c g,Bq]
   refine Qp (λ_=>Qp (λ_=>YO (ZfO c _ g) (λ_=>ZbT ?_)));rw[UO,Kr]
  ·unfold ZxT
   constructor
   ·rintro⟨X,f,A,e⟩
    exact .inl ⟨H,X,by omega,A,e⟩
   ·rintro(⟨_,X,f,A,e⟩|⟨x,_⟩)
    ·exact⟨X,by omega,A,e⟩
    ·exact absurd H x
 ·rw[Ue (by rw[ZT H];simp)]
  refine ZeO (YO (ZeP _ _ F) (λ_=>YO (ZeP _ _ b) (λ_=>?_))) (P:=ZcE (Gy a) true/\ZcE (GO a) true/\(Gn a=((K6 c).length:Int)-1/\(0<=Gi a/\Gi a<=((K6 c).length:Int)-2)/\
   ((K9 a=1/\ZpX (K6 c) (Gi a)=false/\(1<=Gx a/\Gx a<=3))\/((K9 a=2\/K9 a=3)/\ZpX (K6 c) (Gi a)=true/\Gx a=0)))) ?_
  ·rw[Zdk c g,Bq]
   refine Qp (λ_=>YO (ZfO c _ g) (λo=>?_));obtain⟨p,d,h⟩:=Zw2 (l:=K6 c) o.1;rw[d,h];simp only[Bq];by_cases k1:K9 a=1
   ·simp only[k1,Uk]
    refine ZeO (Zgf (λ_=>Zdj (Qs _ _ _))) ?_;grind
   by_cases k:K9 a=2
   ·simp only[k,Uk,Int.reduceEq,Uj]
    refine ZeO (Qp (λ_=>ZbT (KB))) ?_;grind
   by_cases Q:K9 a=3
   ·simp only[Q,Uk,Int.reduceEq,Uj]
    refine ZeO (Qp (λ_=>ZbT (KB))) ?_;grind
   ·simp only[k1,k,Q,Uj]
    refine ZpE ?_;grind
  ·unfold ZxT
   constructor
   ·intro x;exact .inr ⟨H,x⟩
   ·rintro(⟨x,_⟩|⟨_,x⟩)
    ·exact absurd x H
    ·exact x
def Zgr (o a:ZL):Prop:=K9 o=K9 a/\Gi o=Gi a/\Gn o=Gn a
def Apart (l:List ZL) (k:Nat) (a:ZL):Prop:=∀(j:Nat) (o:ZL),j<k->l[j]?=some o->¬Zgr o a
structure Zo8 (c:Zq):Prop where
 name:(G0 c).length<=4611686018427387904
 pins:sm (.sl ZqP) (K6 c)
 arcs:sm (.sl Zow) (Ge c)
 truth:sm (.sl (.int .i64)) (Gw c)
theorem ZzE {c:Zq} (h:sm ZgA c):Zo8 c:=⟨Zgz h.1,h.2.2.1,h.2.2.2.1,h.2.2.2.2.1⟩
theorem ZCx {a:ZL} (h:sm Zow a):sm (.sl Zbi) (Gy a)/\sm (.sl Zbi) (GO a):=⟨h.2.2.2.2.1,h.2.2.2.2.2.1⟩
theorem ZkM (o a:ZL):Q5 o a=some (tr (Zgr o a)):=by
 unfold Q5 Zgr;exact Qp (λ_=>Qp (λ_=>ZbT KB))
theorem ZnI (h:Zo8 c):Zcs c=some (tr ((Ge c).length<=8/\ZeM (Ge c) (λk a=>ZxT c a/\Apart (Ge c) k a))):=by
 unfold Zcs;have q:=ZK h.arcs;rw[QF (YV h.arcs) (λk a=>ZxT c a/\Apart (Ge c) k a) (bad:=false) (good:=decide ((Ge c).length<=8))
  (λk a l n _=>by
   obtain⟨g,i⟩:=ZCx (Zg1 h.arcs l);simp only[ZaT,show(k:Int)<((Ge c).length:Int)from by omega,Uk,Zv,l,Bq,Zqc c a h.pins g i];by_cases H:ZxT c a
   ·rw[Uc (ZR H),Ra,Ra]
    simp only[UG,Int.toNat_zero,KL,Nat.sub_zero];rw[QG (by show((Ge c).take k).length<=4611686018427387904;grind) (λo=>tr (Zgr o a)) (λo _=>ZkM o a),Bq];have e:((Ge c).take k).any (λo=>tr (Zgr o a))=true<->¬Apart (Ge c) k a:=by
     rw[KN];constructor
     ·rintro⟨o,f,q⟩ G
      obtain⟨j,b⟩:=UA.1 f;rw[UB]at b;split at b
      ·rename_i d;exact G j o d b ((Xf _).1 q)
      ·cases b
     ·intro X
      apply Uz;intro m;refine X (λj o b f q=>m ⟨o,?_,ZR q⟩);exact UA.2 ⟨j,by grind⟩
    grind
   ·rw[Ue (by rw[ZT H];simp)]
    grind)
  (λ_=>by
   simp only[ZaT,Ui,Uj];congr 2;grind)]
 congr 1;refine ZeN ?_;rw[Xf];by_cases H:ZeM (Ge c) (λk a=>ZxT c a/\Apart (Ge c) k a)
 ·rw[Xr H,Ul];grind
 ·rw[Y7 H];grind
def ZqX (c:Zq) (k:Int):Prop:=∃a∈Ge c,K9 a=k
theorem ZeR (k:Int) (h:Zo8 c):V5 c k=some (tr (ZqX c k)):=by
 unfold V5;rw[Va (YV h.arcs) (λa=>decide (K9 a=k)) (λa _=>rfl),Bq];refine ZbT ?_;rw[KN];simp only[Ul,ZqX]
def ZgH (c:Zq):Prop :=
 (GX c=1/\ZmT (K6 c)=0/\(Gw c).length=2^((K6 c).length-1)/\Zhj (Gw c) 0 1)\/
 (GX c=2/\ZmT (K6 c)=1/\(Gw c).length=0/\¬ZqX c 1/\(ZqX c 2<->¬ZqX c 3))\/
 (GX c=3/\ZmT (K6 c)=1/\(Gw c).length=0/\ZqX c 1/\ZqX c 2/\¬ZqX c 3)
theorem Zw6 (h:n<=4):(2:Nat)^n<=16:=by
 calc (2:Nat)^n<=2^4:=Nat.pow_le_pow_right (by omega) h
  _=16:=rfl
variable {m:Nat}
theorem ZBU (h:m<=4:=by omega):Wq ((1:Int)*(2:Int)^min m (IntKind.bits IntKind.i64))=((2^m:Nat):Int):=by
 have b:min m (IntKind.bits IntKind.i64)=m:=Nat.min_eq_left (by show m<=64;omega);have e:(1:Int)*(2:Int)^m=((2^m:Nat):Int):=by simp
 rw[b,e];have H:=Zw6 h;clear b e;generalize 2^m=g at H ⊢;rw[QR]
theorem ZmQ (h:Zo8 c) (i:Zjr (K6 c)):Zby c=some (tr (ZgH c)):=by
 unfold Zby
 have f:=i.1;have j:=i.2.1;refine (show Zt (λv=>Qy c v.1 v.2.1) ((0:Int),(0:Int),())=_ from Za1 (l:=K6 c) (ρ:=Bool) (λk=>((((K6 c).take k).countP (λp=>Gg p):Int),(k:Int),())) (step:=λv=>Qy c v.1 v.2.1)
  (λk p x m=>by
   have I:((K6 c).take k).countP (λp=>Gg p)<=5:=by
    have d:=KV (p:=λp=>Gg p) (l:=(K6 c).take k);grind
   have g:((K6 c).take (k+1)).countP (λp=>Gg p)=((K6 c).take k).countP (λp=>Gg p)+if Gg p=true then 1 else 0:=by
    rw[XF x,KA];grind
   simp only[Qy,show(k:Int)<((K6 c).length:Int)from by omega,Uk,Zv,x,Bq,g];by_cases q:Gg p=true
   ·rw[Uc q,Uc q,Xd,Xd]
   ·rw[Ue q,Ue q,Xd];rfl)
  ?_)
 have t:=Zdk c h.pins;simp only[Qy,Ui,Uj,Ur,t,Bq,show(((K6 c).length:Int)-1).toNat=(K6 c).length-1 from by omega,ZBU (show(K6 c).length-1<=4 by omega)];have E:((K6 c).countP (λp=>Gg p):Int)=0<->ZmT (K6 c)=0:=by unfold ZmT;omega
 have e:((K6 c).countP (λp=>Gg p):Int)=1<->ZmT (K6 c)=1:=by unfold ZmT;omega
 unfold ZgH;by_cases k1:GX c=1
 ·simp only[k1,Uk]
  by_cases q:ZmT (K6 c)=0
  ·rw[Uc (E.2 q),Ra]
   by_cases H:(Gw c).length=2^((K6 c).length-1)
   ·rw[Uc (by rw[H]),Zcv _ _ _ (YV h.truth),Bq]
    congr 2;refine(Zm3 ?_).symm;rw[Zko];grind
   ·rw[QQ,ZT (by grind)]
  ·rw[Ue (λr=>q (E.1 r)),ZT (by grind)]
 by_cases K:GX c=2
 ·simp only[K,Uk,Int.reduceEq,Uj]
  by_cases q:ZmT (K6 c)=1
  ·rw[Uc (e.2 q)]
   by_cases H:(Gw c).length=0
   ·rw[QP,ZeR c 1 h,Bq]
    by_cases d:ZqX c 1
    ·rw[Uc (ZR d),ZT (by grind)]
    ·rw[Ue (by rw[ZT d];simp),ZeR c 2 h,ZeR c 3 h]
     simp only[Bq];congr 2;refine(Zm3 ?_).symm;by_cases a:ZqX c 2<;>by_cases b:ZqX c 3<;>simp only[ZR,ZT,a,b,not_false_eq_true]<;>grind
   ·rw[QQ,ZT (by grind)]
  ·rw[Ue (λr=>q (e.1 r)),ZT (by grind)]
 by_cases Q:GX c=3
 ·simp only[Q,Uk,Int.reduceEq,Uj]
  by_cases q:ZmT (K6 c)=1
  ·rw[Uc (e.2 q)]
   by_cases H:(Gw c).length=0
   ·rw[QP,ZeR c 1 h,Bq]
    by_cases d:ZqX c 1
    ·rw[Uc (ZR d),ZeR c 2 h,Bq]
     by_cases f:ZqX c 2
     ·rw[Uc (ZR f),ZeR c 3 h,Bq]
      congr 2;refine(Zm3 ?_).symm;rw[UO,<-Bool.not_eq_true,Xf];grind
     ·rw[Ue (by rw[ZT f];simp),ZT (by grind)]
    ·rw[Ue (by rw[ZT d];simp),ZT (by grind)]
   ·rw[QQ,ZT (by grind)]
  ·rw[Ue (λr=>q (e.1 r)),ZT (by grind)]
 ·simp only[k1,K,Q,Uj]
  rw[ZT (by grind)]
def ZBO (c:Zq):Prop:=ZaK (G0 c)=true/\Zjr (K6 c)/\((Ge c).length<=8/\ZeM (Ge c) (λk a=>ZxT c a/\Apart (Ge c) k a))/\(0<=Hr c/\Hr c<=100000)/\(0<=Hs c/\Hs c<=100000)/\ZgH c
def Zjp (c:Zq):Prop:=ZaK (G0 c)=true/\Zjr (K6 c)/\((Ge c).length<=8/\ZeM (Ge c) (λk a=>Zlb c a/\Apart (Ge c) k a))/\(0<=Hr c/\Hr c<=100000)/\(0<=Hs c/\Hs c<=100000)/\ZgH c
theorem ZyJ {i:Nat} {p q:XI} (W:i<j) (g:l[i]?=some p) (a:l[j]?=some q) (c:Gg p=true) (C:Gg q=true):2<=ZmT l:=by
 unfold ZmT;have e:l.countP (λp=>Gg p)=(l.take j).countP (λp=>Gg p)+(l.drop j).countP (λp=>Gg p):=by rw[<-KA,Kz]
 have d:0<(l.take j).countP (λp=>Gg p):=KJ.2 ⟨p,UA.2 ⟨i,by grind⟩,c⟩;have f:0<(l.drop j).countP (λp=>Gg p):=KJ.2 ⟨q,UA.2 ⟨0,by grind⟩,C⟩;omega
theorem Zpd (h:ZmT l<=1) (k:0<=i):ZpX l i=true<->i=ZjT l:=by
 unfold ZjT ZaI ZpX;constructor
 ·intro q
  split at q
  ·rename_i p d
   split
   ·rename_i j b
    obtain⟨r,H,a⟩:=U9.1 b;have g:l[j]?=some l[j]:=Ua r;rcases Nat.lt_trichotomy i.toNat j with t|y|t
    ·grind
    ·omega
    ·have:=ZyJ t g d H q;omega
   grind
  ·cases q
 ·intro c
  split at c
  ·rename_i j b
   obtain⟨r,H,a⟩:=U9.1 b;grind
  ·omega
theorem Zuz (h:Zjr l):ZpX l ((l.length:Int)-1)=false:=by
 have f:=h.1;have g:l[l.length-1]?=some l[l.length-1]:=Ua (by omega);have:=((h.2.2.2 _ _ g).2.1 (by omega)).2.2;unfold ZpX;rw[show((l.length:Int)-1).toNat=l.length-1 by omega,g];exact this
theorem ZvA {c:Zq} (g:Zjr (K6 c)) (H:ZmT (K6 c)<=1) (a:ZL):ZxT c a<->Zlb c a:=by
 have f:=g.1;have o:0<=Gi a->(ZpX (K6 c) (Gi a)=true<->Gi a=ZjT (K6 c)):=λh=>Zpd H h;have z:0<=Gn a->(ZpX (K6 c) (Gn a)=true<->Gn a=ZjT (K6 c)):=λh=>Zpd H h;have t:=Zuz g;have r:∀i,ZpX (K6 c) i=true->i<((K6 c).length:Int):=by
  intro i l;unfold ZpX at l;grind
 unfold ZxT Zlb;grind
theorem ZgH.ZmT {c:Zq} (h:ZgH c):ZmT (K6 c)<=1:=by
 rcases h with h|h|h
 all_goals grind
theorem Zx7:ZBO c<->Zjp c:=by
 unfold ZBO Zjp;constructor
 ·rintro⟨a,b,⟨c1,d⟩,e,f,g⟩
  exact⟨a,b,⟨c1,λk x l=>⟨(ZvA b g.ZmT x).1 (d k x l).1,(d k x l).2⟩⟩,e,f,g⟩
 ·rintro⟨a,b,⟨c1,d⟩,e,f,g⟩
  exact⟨a,b,⟨c1,λk x l=>⟨(ZvA b g.ZmT x).2 (d k x l).1,(d k x l).2⟩⟩,e,f,g⟩
theorem ZoK (h:sm ZgA c):ZhN c=some (tr (Zjp c)):=by
 have q:=ZzE h;unfold ZhN;refine ZeO (YO (by rw[Zhd];exact ZbT KT) (λ_=>YO (ZnJ _ q.pins) (λg=>YO (ZnI c q) (λ_=>YO (Qs _ _ _) (λ_=>YO (Qs _ _ _) (λ_=>Zdj (ZmQ c q g))))))) ?_;exact(Zx7 c)
def ZfH (l:List ZL):List Int:=(List.range 6).map (λ(j:Nat)=>((l.countP (λa=>decide (K9 a=(j:Int))):Nat):Int))
theorem Zdp (l:List ZL) (h:j<6):(ZfH l)[j]?=some ((l.countP (λa=>decide (K9 a=(j:Int))):Nat):Int):=by
 simp[ZfH,Kf h]
theorem ZmY (h:Zo8 c) (e:∀a∈Ge c,1<=K9 a/\K9 a<=5):Zf2 c=some (ZfH (Ge c)):=by
 unfold Zf2;have q:=ZK h.arcs;have H:List.replicate (Int.toNat (6:Int)) (0:Int)=ZfH ((Ge c).take 0):=by simp[ZfH];decide
 rw[H];refine Za1 (l:=Ge c) (ρ:=List Int) (λk=>((k:Int),ZfH ((Ge c).take k),())) (step:=λv=>Za3 c v.1 v.2.1)
  (λk a x t=>?_) (by simp only[Za3,Ui,Uj,Ur])
 obtain⟨k1,K⟩:=e a (Ud x);have n:K9 a=((K9 a).toNat:Int):=by omega
 have I:∀j:Nat,((Ge c).take k).countP (λa=>decide (K9 a=(j:Int)))<=1048576:=by
  intro j;have d:=KV (p:=λa=>decide (K9 a=(j:Int))) (l:=(Ge c).take k);rw[Uo]at d;omega
 simp only[Za3,show(k:Int)<((Ge c).length:Int)from by omega,Uk,Zv,x,Bq];rw[Qt (by omega) (Zdp _ (show(K9 a).toNat<6 by omega)),Bq,Xd (I _),Xd];congr 3;rw[Prod.mk.injEq];refine⟨?_,rfl⟩;apply UI;intro j;by_cases b:(K9 a).toNat=j
 ·subst b
  rw[UF (by simp[ZfH];omega),Zdp _ (by omega),XF x,KA];congr 2;rw[K1,List.countP_nil];simp[<-n]
 ·rw[UH b]
  by_cases G:j<6
  ·rw[Zdp _ G,Zdp _ G,XF x,KA]
   congr 2;rw[K1,List.countP_nil];have:¬K9 a=(j:Int):=by omega
   simp[this]
  ·rw[Uv (by simp[ZfH];omega),Uv (by simp[ZfH];omega)]
theorem Znt (j:Nat):0<(Ge c).countP (λa=>decide (K9 a=(j:Int)))<->ZqX c j:=by
 rw[KJ];simp only[Ul,ZqX]
theorem Zmb (h:Zo8 c) (g:Zjr (K6 c)) (e:GX c=1) :
  Zt (λv=>Zcz c ((ZmT (K6 c):Int),true) v.1) ((0:Int),())=some (.inr (tr (ZgH c))):=by
 have d:=g.1;have j:=g.2.1;have s:=ZK h.truth;have e1:Wq (((K6 c).length:Int)-1)=((K6 c).length:Int)-1:=QR;have f:IntKind.u64.wrap (((K6 c).length:Int)-1)=((K6 c).length:Int)-1:=IntWalk.u64_in _ (by omega);rw[QF (YV h.truth) (λk x=>0<=x/\x<=1) (bad:=.inr false) (good:=.inr (tr (ZmT (K6 c)=0/\(Gw c).length=2 ^ ((K6 c).length-1))))
  (λk x l H _=>by
   simp only[Zcz,show (k:Int)<((Gw c).length:Int) from by omega,Uk,Zv,l,Bq,JZ,QD];exact ⟨λr=>by rw[Uc r],λr=>by rw[Ue r]⟩)
  (λ_=>by
   simp only[Zcz,Ui,Uj,e1,f];by_cases q:ZmT (K6 c)=0
   ·rw[QP,Ra,show(((K6 c).length:Int)-1).toNat=(K6 c).length-1 by omega,ZBU]
    congr 2;congr 1;refine(Zm3 ?_).symm;rw[Ul];constructor
    ·intro r;exact⟨q,by omega⟩
    ·intro r;rw[r.2]
   ·rw[QQ,ZT (λr=>q r.1)])]
 congr 1;by_cases a:ZeM (Gw c) (λk x=>0<=x/\x<=1)
 ·rw[Xr a]
  congr 1;refine Xj ?_;have b:Zhj (Gw c) 0 1:=λx l=>by
   obtain⟨k,H⟩:=UA.1 l;exact a k x H
  unfold ZgH;grind
 ·rw[Y7 a,ZT]
  intro r;rcases r with r|r|r
  ·exact a (λk x H=>r.2.2.2 x (Ud H))
  ·have:=r.1;omega
  ·have:=r.1;omega
theorem ZoW (T:sm ZgA c):Zh4 c=some (tr (Zjp c)):=by
  have h:=ZzE T;have U:=ZK h.arcs;unfold Zh4;rw[Zoo c h.pins,Bq];by_cases C:¬Zjr (K6 c)
  · rw[Y7 C,ZT (λr=>C r.2.1)];rfl
  have q:=Classical.not_not.1 C;rw[Xr q];simp only[Uk];refine ZeO (YO (P:=ZaK (G0 c)=true) (by rw[Zcf _ h.name];exact ZbT KT) (λX=>Zgf (λQ=>YO (QT _ _ _) (λS=>YO (QT _ _ _) (λR=>?_))))) (P:=ZaK (G0 c)=true/\¬((8:Int)<((Ge c).length:Int))/\(0<=Hr c/\Hr c<=100000)/\(0<=Hs c/\Hs c<=100000)/\(ZeM (Ge c) (λk a=>Zlb c a/\Apart (Ge c) k a)/\ZgH c)) ?_
  · rw[QF (YV h.arcs) (λk a=>Zlb c a/\Apart (Ge c) k a) (bad:=false) (good:=tr (ZgH c))
      (λk a A z _=>by
        obtain⟨F,J⟩:=ZCx (Zg1 h.arcs A);simp only[ZeY,show(k:Int)<((Ge c).length:Int)from by omega,Uk,Zv,A,Bq,ZoZ c a h.pins F J q.1];have I:Zt (λv=>Zcy c (k:Int) a v.1) ((0:Int),())=some (sel (∀j,j<k->∀o,(Ge c)[j]?=some o->¬Zgr o a) (.inl (Wq ((k:Int)+1),())) (.inr false)):=by
          refine ZnX k (by omega) (λj=>∀o,(Ge c)[j]?=some o->¬Zgr o a) (λj n=>?_) (λ_=>by simp only[Zcy,Ui,Uj]);obtain⟨o,m⟩:∃o,(Ge c)[j]?=some o:=⟨_,Ua (by omega)⟩;simp only[Zcy,show(j:Int)<(k:Int)from by omega,Uk,Zv,m,Bq];have e:(∀o',some o=some o'->¬Zgr o' a)<->¬Zgr o a:=⟨λr=>r o rfl,λr o' Y=>by injection Y with Y;subst Y;exact r⟩
          rw[e];unfold Zgr;constructor
          · intro r
            split
            · split
              · split
                · exact absurd ⟨‹_›,‹_›,‹_›⟩ r
                · rfl
              · rfl
            · rfl
          · intro r
            have r:=Classical.not_not.1 r;rw[Uc r.1,Uc r.2.1,Uc r.2.2]
        have p:Apart (Ge c) k a<->(∀j,j<k->∀o,(Ge c)[j]?=some o->¬Zgr o a):=⟨λr j n o m=>r j o n m,λr j o n m=>r j n o m⟩;by_cases H:Zlb c a
        · rw[Uc (ZR H),I]
          constructor
          · intro r;rw[Xr (p.1 r.2)]
          · intro r;rw[Y7 (λE=>r ⟨H,p.2 E⟩)]
        · rw[Ue (by rw[ZT H];simp)]
          exact ⟨λr=>absurd r.1 H,λ_=>rfl⟩)
      (λH=>by
        have s:=ZmY c h (λa L=>by
          obtain ⟨k,z⟩:=UA.1 L;exact (H k a z).1.kind)
        have G:atI (ZfH (Ge c)) (1:Int)=some (((Ge c).countP (λa=>decide (K9 a=((1:Nat):Int))):Nat):Int):=Qt (by omega) (Zdp _ (by omega));have B:atI (ZfH (Ge c)) (2:Int)=some (((Ge c).countP (λa=>decide (K9 a=((2:Nat):Int))):Nat):Int):=Qt (by omega) (Zdp _ (by omega));have D:atI (ZfH (Ge c)) (3:Int)=some (((Ge c).countP (λa=>decide (K9 a=((3:Nat):Int))):Nat):Int):=Qt (by omega) (Zdp _ (by omega));have c1:=Znt c 1;have c2:=Znt c 2;have O:=Znt c 3;simp only[ZeY,Ui,Uj,s,Bq,G,B,D];generalize (Ge c).countP (λa=>decide (K9 a=((1:Nat):Int)))=n1 at c1 ⊢;generalize (Ge c).countP (λa=>decide (K9 a=((2:Nat):Int)))=N at c2 ⊢;generalize (Ge c).countP (λa=>decide (K9 a=((3:Nat):Int)))=y at O ⊢;by_cases k1:GX c=1
        · rw[Uc k1]
          exact Zmb c h q k1
        rw[Ue k1];have l:∀(b:Bool),(b=true<->ZgH c)->(some (.inr b):Option ((Int×Unit)⊕Bool))=some (.inr (tr (ZgH c))):=λb M=>by rw[Zm3 M]
        have t:ZqX c 1<->0<n1:=c1.symm;have u:ZqX c 2<->0<N:=c2.symm;have w:ZqX c 3<->0<y:=O.symm;have i:ZgH c<->(GX c=2/\ZmT (K6 c)=1/\(Gw c).length=0/\¬0<n1/\(0<N<->¬0<y))\/(GX c=3/\ZmT (K6 c)=1/\(Gw c).length=0/\0<n1/\0<N/\¬0<y):=by
          unfold ZgH;rw[t,u,w];constructor
          · rintro(r|r|r)
            · exact absurd r.1 k1
            · exact .inl r
            · exact .inr r
          · rintro(r|r)
            · exact .inr (.inl r)
            · exact .inr (.inr r)
        by_cases K:GX c=2
        · rw[Uc K]
          split
          · split
            · split
              · rename_i a b d
                refine l _ ?_;rw[i];simp only[Kb,Kx]at d;constructor
                · intro r;cases r
                · intro r;omega
              · rename_i a b d
                refine l _ ?_;rw[i,Ul];simp only[Kb,Kx]at d;omega
            · refine l _ ?_
              rw[i];constructor
              · intro r;cases r
              · intro r;omega
          · refine l _ ?_
            rw[i];constructor
            · intro r;cases r
            · intro r;omega
        rw[Ue K];repeat' split
        all_goals
          refine l _ ?_;rw[i];first
            |(rw[Ul];omega)
            | (constructor
               · intro r;cases r
               · intro r;omega))]
    congr 1;by_cases H:ZeM (Ge c) (λk a=>Zlb c a/\Apart (Ge c) k a)
    · rw[Xr H];exact Xj ⟨λx=>⟨H,x⟩,λx=>x.2⟩
    · rw[Y7 H,ZT (λx=>H x.1)]
  · unfold Zjp
    constructor
    · rintro⟨a,b,c1,d,e,f⟩
      exact⟨a,q,⟨by omega,e⟩,c1,d,f⟩
    · rintro⟨a,b,⟨c1,d⟩,e,f,g⟩
      exact⟨a,by omega,e,f,d,g⟩
variable {l:List α}
theorem Zt0 {s:α}:s ∉ l.take k<->∀(j:Nat) (q:α),j<k->l[j]?=some q->q≠s:=by
 constructor
 ·intro h j q b a e
  refine h (UA.2 ⟨j,?_⟩);rw[UB,Uc b,a,e]
 ·intro h R
  obtain⟨j,b⟩:=UA.1 R;rw[UB]at b;split at b
  ·rename_i c;exact h j s c b rfl
  ·cases b
theorem Zn0 (f:α->List UInt8) (l:List α):V4 (l.map f) l.length<->ZeM l (λk x=>ZaK (f x)=true/\∀(j:Nat) (q:α),j<k->l[j]?=some q->f q≠f x):=by
 constructor
 ·intro h k x H
  have m:=(Ub.1 H).1;obtain⟨d,b⟩:=h k (f x) m (by simp[H]);refine⟨d,λj q c a=>Zt0.1 b j (f q) c (by simp[a])⟩
 ·intro h j s c e
  simp only[UL,Ku]at e;obtain⟨x,H,rfl⟩:=e;obtain⟨d,b⟩:=h j x H;refine⟨d,Zt0.2 (λi q g a=>?_)⟩;simp only[UL,Ku]at a;obtain⟨y,n,rfl⟩:=a;exact b i y g n
def Zhv (l:List Zq):List (List UInt8):=l.map G0
def Zq1 (a:ZI):Prop:=(Gh a).length<=8/\(∀c∈Gh a,Zjp c)/\V4 (Zhv (Gh a)) (Gh a).length
theorem Zy4 {a:ZI} (h:sm VI a):sm (.sl ZgA) (Gh a):=h.1
theorem JA {P:α->Prop}:ZeM l (λ_ x=>P x)<->∀x∈l,P x:=by
 constructor
 ·intro h x a
  obtain⟨k,H⟩:=UA.1 a;exact h k x H
 ·intro h k x H
  exact h x (Ud H)
theorem Zef:sel P (tr Q) false=tr (P/\Q):=by
 by_cases h:P
 ·rw[Xr h];exact Xj ⟨λq=>⟨h,q⟩,λq=>q.2⟩
 ·rw[Y7 h,ZT (λq=>h q.1)]
variable (a:ZI)
theorem ZlM (h:sm VI a):Zfb a=some (tr (Zq1 a)):=by
 have b:=Zy4 h;have s:=ZK b;unfold Zfb;have:=ZhV (l:=Gh a) (ρ:=Bool) (λk=>((Zhv (Gh a)).take k,(k:Int),())) (λ_ c=>Zjp c) (step:=λv=>VQ a v.1 v.2.1) (bad:=false) (good:=tr ((Gh a).length<=8/\V4 (Zhv (Gh a)) (Gh a).length))
  (λk c x e _=>by
   have X:(Zhv (Gh a))[k]?=some (G0 c):=by simp[Zhv,x]
   simp only[VQ,show(k:Int)<((Gh a).length:Int)from by omega,Uk,Zv,x,Bq,ZoK c (Zg1 b x)];rw[Zk (by simp only[Uo,UV,Zhv,U5];omega),XF X,Xd];constructor
   ·intro r;rw[Uc (ZR r)]
   ·intro r;rw[Ue (by rw[ZT r];simp)])
  (λd=>by
   have E:(Zhv (Gh a)).take (Gh a).length=Zhv (Gh a):=by rw[show(Gh a).length=(Zhv (Gh a)).length by simp[Zhv],Ur]
   have n:(Zhv (Gh a)).length=(Gh a).length:=by simp[Zhv]
   simp only[VQ,Ui,Uj,E];by_cases H:(Gh a).length<=8
   ·rw[QP,VK _ (by rw[n];omega),Bq,n]
    congr 2;exact Xj ⟨λq=>⟨H,q⟩,λq=>q.2⟩
   ·rw[QQ,ZT (λq=>H q.1)])
 refine(show Zt (λv=>VQ a v.1 v.2.1) (([]:List (List UInt8)),(0:Int),())=_ from this).trans ?_;rw[Zef];congr 1;refine Xj ?_;rw[JA];exact⟨λq=>⟨q.2.1,q.1,q.2.2⟩,λq=>⟨q.2.1,q.1,q.2.2⟩⟩
variable {f:α->List UInt8}
theorem Zj2 {x:α} (g:k<=1048576) (c:k<=l.length) {step:Int×Unit->Option ((Int×Unit)⊕ρ)}
  (s:∀(j:Nat) (y:α),j<k->l[j]?=some y->step ((j:Int),())=some (if f y=f x then .inr bad else .inl (Wq ((j:Int)+1),())))
  (d:step ((k:Int),())=some (.inr good)):Zt step ((0:Int),())=some (sel (∀(j:Nat) (q:α),j<k->l[j]?=some q->f q≠f x) good bad):=by
 rw[ZnX k (by omega) (λj=>∀ q,l[j]?=some q->f q≠f x) (bad:=bad) (good:=good) (λj b=>by
  have X:l[j]?=some l[j]:=Ua (by omega);rw[s j _ b X];constructor
  ·intro r;rw[Ue (r _ X)]
  ·intro r
   rw[Uc];apply Uz;intro H;refine r (λq a=>?_);rw[X] at a;injection a with a;subst a;exact H) (λ_=>d)]
 congr 1;have e:(∀j,j<k->∀q,l[j]?=some q->f q≠f x)<->(∀(j:Nat) (q:α),j<k->l[j]?=some q->f q≠f x):=⟨λh j q b a=>h j b q a,λh j b q a=>h j q b a⟩;rw[propext e]
theorem Zmc (h:sm VI a):Zfg a=some (tr (Zq1 a)):=by
 have d:=Zy4 h;have s:=ZK d;unfold Zfg;rw[QF (YV d) (λk c=>Zjp c/\∀ (j:Nat) (q:Zq),j<k->(Gh a)[j]?=some q->G0 q≠G0 c) (bad:=false) (good:=tr ((Gh a).length<=8))
  (λk c H m _=>by
   simp only[ZcI,show(k:Int)<((Gh a).length:Int)from by omega,Uk,Zv,H,Bq,ZoW c (Zg1 d H)];by_cases b:Zjp c
   ·rw[Uc (ZR b),Zj2 (f:=G0) (l:=Gh a) (x:=c) (k:=k) (by omega) (by omega) (bad:=.inr false) (good:=.inl (Wq ((k:Int)+1),()))
     (λj y g i=>by
      simp only[ZcH,show (j:Int)<(k:Int) from by omega,Uk,Zv,i,Bq];split<;>rfl)
     (by simp only[ZcH,Ui,Uj])]
    constructor
    ·intro r;rw[Xr r.2]
    ·intro r;rw[Y7 (λq=>r ⟨b,q⟩)]
   ·rw[Ue (by rw[ZT b];simp)]
    exact ⟨λr=>absurd r.1 b,λ_=>rfl⟩)
  (λ_=>by
   simp only[ZcI,Ui,Uj];congr 2;exact (Zm3 (by rw[Ul];omega)).symm)]
 rw[Zef];congr 1;refine Xj ?_;unfold Zq1;rw[Zhv,Zn0,<-JA];constructor
 ·rintro⟨q,p⟩
  exact⟨p,λk x H=>(q k x H).1,λk x H=>⟨(q k x H).1.1,(q k x H).2⟩⟩
 ·rintro⟨p,Q,e⟩
  exact⟨λk x H=>⟨Q k x H,(e k x H).2⟩,p⟩
theorem ZfJ (l:List (List UInt8)) (c:l.length<=1048576) (T:∀s∈l,s.length<=4611686018427387904):ZcB l=some (tr (V4 l l.length)):=by
 unfold ZcB;rw[QF (show Len l by show l.length<=4611686018427387904;omega) (λk s=>ZaK s=true/\∀ (j:Nat) (q:List UInt8),j<k->l[j]?=some q->id q≠id s) (bad:=false) (good:=true)
  (λk s H a _=>by
   simp only[Zdz,show(k:Int)<(l.length:Int)from by omega,Uk,Zv,H,Bq,Zcf s (T s (Ud H))];by_cases h:ZaK s=true
   ·rw[Uc h,Zj2 (f:=id) (l:=l) (x:=s) (k:=k) (by omega) (by omega) (bad:=.inr false) (good:=.inl (Wq ((k:Int)+1),()))
     (λj y b i=>by
      simp only[Zdy,show (j:Int)<(k:Int) from by omega,Uk,Zv,i,Bq,id];split<;>rfl)
     (by simp only[Zdy,Ui,Uj])]
    constructor
    ·intro r;rw[Xr r.2]
    ·intro r;rw[Y7 (λq=>r ⟨h,q⟩)]
   ·rw[Ue h]
    exact ⟨λr=>absurd r.1 h,λ_=>rfl⟩)
  (λ_=>by simp only[Zdz,Ui,Uj]),Zhz]
 congr 1;refine Xj ?_;have:=Zn0 id l;rw[List.map_id]at this;exact this.symm
def Zgn (d:Ze):List (List UInt8):=(K4 d).map Hb
def Zec (d:Ze):List (List UInt8):=(Gk d).map Hc
def Zkm (d:Ze):Prop:=(K4 d).length<=14/\(Gp d).length<=30/\(Gk d).length<=8/\V4 (Zgn d) (Zgn d).length/\V4 (Gp d) (Gp d).length/\V4 (Zec d) (Zec d).length
theorem gather (b:l.length<=1048576) (f:α->List UInt8) {step:List (List UInt8)×Int×Unit->Option ((List (List UInt8)×Int×Unit)⊕ρ)}
  (q:∀(k:Nat) (x:α) (o:List (List UInt8)),l[k]?=some x->(k:Int)<(l.length:Int)->o.length=k->step (o,(k:Int),())=Zw ((o.length+[f x].length)*16<=140737488355328) (some (.inl (o++[f x],Wq ((k:Int)+1),()))))
  (H:step (l.map f,(l.length:Int),())=some (.inr good)):Zt step (([]:List (List UInt8)),(0:Int),())=some good:=by
 refine(show Zt step (([]:List (List UInt8)),(0:Int),())=some good from Za1 (l:=l) (λk=>((l.map f).take k,(k:Int),())) (λk x H a=>?_) ?_)
 ·have X:(l.map f)[k]?=some (f x):=by simp[H]
  have h:((l.map f).take k).length=k:=by rw[Uo,U5];omega
  rw[q k x _ H (by omega) h,Zk (by rw[h];simp;omega),XF X,Xd]
 ·have E:(l.map f).take l.length=l.map f:=by rw[show l.length=(l.map f).length by simp,Ur]
  simp only[E];exact H
theorem Zjh {d:Ze} (h:sm Qv d):sm (.sl Zfz) (K4 d)/\sm (.sl Zvf) (Gk d)/\sm (.sl .str) (Gp d):=by
 refine⟨?_,?_,?_⟩
 ·first|exact h.1|exact h.2.1|exact h.2.2.1|exact h.2.2.2.1
 ·first|exact h.1|exact h.2.1|exact h.2.2.1|exact h.2.2.2.1
 ·first|exact h.1|exact h.2.1|exact h.2.2.1|exact h.2.2.2.1
theorem ZpC {x:Zp} (h:sm Zfz x):sm .str (Hb x)/\sm (.sl (.int .i64)) (Gu x):=by
 refine⟨?_,?_⟩
 ·first|exact h.1|exact h.2.1|exact h.2.2.1|exact h.2.2.2.1
 ·first|exact h.1|exact h.2.1|exact h.2.2.1|exact h.2.2.2.1
theorem ZCz {x:Y8} (h:sm Zvf x):sm .str (Hc x):=by
 first|exact h.1|exact h.2.1|exact h.2.2.1|exact h.2.2.2.1
variable (d:Ze)
theorem ZhM (h:sm Qv d):Zal d=some (tr (Zkm d)):=by
 obtain⟨j,m,n⟩:=Zjh h;have s:=ZK j;have S:=ZK m;have t:=ZK n;unfold Zal;refine gather (l:=K4 d) s Hb (λk x o g H r=>?_) ?_
 ·simp only[JG,H,Uk,Zv,g,Bq]
 simp only[JG,Ui,Uj];have i:(Zgn d).length=(K4 d).length:=by simp[Zgn]
 have p:(Zec d).length=(Gk d).length:=by simp[Zec]
 refine gather (l:=Gk d) S Hc (λk x o g H r=>?_) ?_
 ·simp only[JF,H,Uk,Zv,g,Bq]
 simp only[JF,Ui,Uj];rw[show List.map Hc (Gk d)=Zec d from rfl,show List.map Hb (K4 d)=Zgn d from rfl];simp only[i,p,VK _ (show(Zgn d).length<=4611686018427387904 by omega),VK _ (show(Zec d).length<=4611686018427387904 by omega),VK _ (show(Gp d).length<=4611686018427387904 by omega),Bq];unfold Zkm;rw[i,p];by_cases a:(K4 d).length<=14
 ·rw[QP]
  by_cases b:(Gp d).length<=30
  ·rw[QP]
   by_cases c:(Gk d).length<=8
   ·rw[QP]
    by_cases e:V4 (Zgn d) (K4 d).length
    ·rw[Uc (ZR e)]
     by_cases f:V4 (Gp d) (Gp d).length
     ·rw[Uc (ZR f)]
      grind
     ·rw[Ue (by rw[ZT f];simp),ZT (λq=>f q.2.2.2.2.1)]
    ·rw[Ue (by rw[ZT e];simp),ZT (λq=>e q.2.2.2.1)]
   ·rw[QQ,ZT (λq=>c q.2.2.1)]
  ·rw[QQ,ZT (λq=>b q.2.1)]
 ·rw[QQ,ZT (λq=>a q.1)]
def ZmC (n:Nat) (s:List Int):List Int:=(List.range n).map (λ(j:Nat)=>((s.countP (λx=>decide (x=(j:Int))):Nat):Int))
theorem Zkw (n:Nat) (s:List Int):(ZmC n s).length=n:=by simp[ZmC]
theorem ZpZ (n:Nat):ZmC n []=List.replicate n 0:=by
 apply UI;intro i;simp only[ZmC,List.countP_nil,UL,Kc,Kf];grind
variable {s:List Int}
theorem Zkv (h:j<n:=by omega):(ZmC n s)[j]?=some ((s.countP (λx=>decide (x=(j:Int))):Nat):Int):=by
 simp[ZmC,h]
variable {x:Int}
theorem Zz1 (k:0<=x) (d:x<(n:Int)):atI (ZmC n s) x=some ((s.countP (λy=>decide (y=x)):Nat):Int):=by
 refine Qt k ?_;rw[Zkv,show(x.toNat:Int)=x by omega]
theorem Zx9 (k:0<=x) (d:x<(n:Int)):List.set (ZmC n s) (Int.toNat x) (((s.countP (λy=>decide (y=x)):Nat):Int)+1)=ZmC n (s++[x]):=by
 apply UI;intro i;rw[UX];by_cases l:i<n
 ·rw[Zkv l,Zkv l,KA,Zkw]
  grind
 ·have d:(ZmC n s)[i]?=none:=by rw[Uv];rw[Zkw];omega
  have f:(ZmC n (s++[x]))[i]?=none:=by rw[Uv];rw[Zkw];omega
  grind
theorem ZiB (k:0<=x) (d:x<(n:Int)) (q:s.length<=1048576000) (F:List Int->Option τ) :
  ((atI (ZmC n s) x).bind λy=>F (List.set (ZmC n s) (Int.toNat x) (Wq (y+1))))=F (ZmC n (s++[x])):=by
 have f:=KV (p:=λy=>decide (y=x)) (l:=s);rw[Zz1 k d,Bq,QR,Zx9 k d]
def Zb6 (x:Zp):Int:=(Gu x).getLastD 0
def Zq0 (d:Ze) (n:Int):Prop:=0<=n/\n<=((Gp d).length:Int)-1
def Zig (a:ZI) (d:Ze) (x:Zp):Prop :=
 (0<=GJ x/\GJ x<=((Gh a).length:Int)-1)/\(∃c,(Gh a)[(GJ x).toNat]?=some c/\(Gu x).length=(K6 c).length)/\∀n∈Gu x,Zq0 d n
def Zjs (d:Ze) (p:Y8):Prop:=(1<=GD p/\GD p<=2)/\Zq0 d (GM p)
def ZDj (d:Ze):List Int:=(K4 d).map Zb6++((Gk d).filter (λp=>decide (GD p=1))).map GM
def Zkn (d:Ze):Prop:=∀x∈ZmC (Gp d).length (ZDj d),x=1
def Zbx (a:ZI) (d:Ze):Prop:=Zq1 a/\Zkm d/\(∀x∈K4 d,Zig a d x)/\(∀p∈Gk d,Zjs d p)/\Zkn d
theorem Zig.last {a:ZI} {d:Ze} {x:Zp} (h:Zig a d x) (l:Zq1 a) (T:(Gu x).length<=1048576):atI (Gu x) (Wq (((Gu x).length:Int)-1))=some (Zb6 x)/\Zq0 d (Zb6 x):=by
 obtain⟨_,⟨c,q,X⟩,H⟩:=h;have f:2<=(K6 c).length:=(l.2.1 c (Ud q)).2.1.1;unfold Zb6;cases n:Gu x with
 |nil=>grind
 |cons y r =>
  rw[n]at T;rw[Zhm T (by simp),Zv];grind
variable (n:Int)
theorem ZfP (h:sm Qv d):Vm d n=some (tr (Zq0 d n)):=by
 have t:=ZK (Zjh h).2.2;unfold Vm;rw[show Zd7 (Gp d)=some ((Gp d).length:Int)from rfl,Bq,QR];exact Zdj (Qs _ _ _)
theorem Zha (a:ZI) (x:Zp) (L:sm Qv d) (H:sm VI a) (l:sm Zfz x):JB d a x=some (tr (Zig a d x)):=by
 have s:=ZK (Zy4 H);unfold JB;rw[show Zb0 (Gh a)=some ((Gh a).length:Int)from rfl,Bq,QR];refine ZeO (P:=(0<=GJ x/\GJ x<=((Gh a).length:Int)-1)/\Zig a d x) (YO (Qs _ _ _) (λw=>?_)) ⟨λq=>q.2,λq=>⟨q.1,q⟩⟩;obtain⟨c,h,z⟩:=Zjv w.1 (show GJ x<((Gh a).length:Int) by omega);rw[h,Bq];refine ZeO (P:=((Gu x).length:Int)=((K6 c).length:Int)/\∀n∈Gu x,Zq0 d n) (Qp (λe=>?_)) ?_
 ·rw[QI (YV (ZpC l).2) (λn=>!tr (Zq0 d n)) (λn _=>by
   unfold Qq;show (Vm d n).bind _=_;rw[ZfP d n L];rfl),Bq]
  refine ZbT ?_;rw[UO,List.any_eq_false];constructor
  ·intro q n X
   have:=q n X;simp only[UO,Bool.not_eq_false]at this;exact(Xf _).1 this
  ·intro q n X
   simp only[UO,Bool.not_eq_false];exact ZR (q n X)
 ·constructor
  ·rintro⟨b,Q⟩;exact⟨w,⟨c,z,by omega⟩,Q⟩
  ·rintro⟨_,⟨C,b,Q⟩,f⟩
   grind
theorem Zty {d:Ze} {p:Y8} (l:(Gk d)[k]?=some p) (s:List Int) :
  s++(((Gk d).take (k+1)).filter (λp=>decide (GD p=1))).map GM=(if GD p=1 then(s++(((Gk d).take k).filter (λp=>decide (GD p=1))).map GM)++[GM p]else s++(((Gk d).take k).filter (λp=>decide (GD p=1))).map GM):=by
 rw[XF l,List.filter_append,Kp];grind
theorem Zv7 {d:Ze} (k m:Nat):(((K4 d).take m).map Zb6++(((Gk d).take k).filter (λp=>decide (GD p=1))).map GM).length<=(K4 d).length+(Gk d).length:=by
 grind
theorem ZmP (e:sm VI a) (L:sm Qv d):ZfW a d=some (tr (Zbx a d)):=by
 obtain⟨c,g,i⟩:=Zjh L;have S:=ZK c;have w:=ZK g;have y:=ZK i;unfold ZfW;refine ZeO (P:=Zq1 a/\Zkm d/\(ZeM (K4 d) (λ_ x=>Zig a d x)/\(ZeM (Gk d) (λ_ p=>Zjs d p)/\Zkn d))) (YO (ZlM a e) (λj=>YO (ZhM d L) (λu=>?_))) (by rw[JA,JA];exact KT);rw[Ra,Ra,Ra,Ra];have:=ZhV (l:=K4 d) (ρ:=Bool) (λk=>((k:Int),ZmC (Gp d).length (((K4 d).take k).map Zb6),())) (λ_ x=>Zig a d x) (step:=λv=>ZaV a d v.1 v.2.1) (bad:=false) (good:=tr (ZeM (Gk d) (λ_ p=>Zjs d p)/\Zkn d))
  (λk x h m _=>by
   have G:=Zg1 c h;simp only[ZaV,show(k:Int)<((K4 d).length:Int)from by omega,Uk,Zv,h,Bq,Zha d a x L e G];constructor
   ·intro r
    obtain⟨e1,f⟩:=r.last j (ZK (ZpC G).2);rw[Uc (ZR r),e1,Bq,ZiB f.1 (by have:=f.2;omega) (by grind) (F:=λo=>some (Sum.inl (Wq ((k:Int)+1),o,()))),XF h,Kp,Xd];rfl
   ·intro r;rw[Ue (by rw[ZT r];simp)])
  (λt=>by
   simp only[ZaV,Ui,Uj,Ur];have:=ZhV (l:=Gk d) (ρ:=Int×List Int×Unit⊕Bool) (λk=>((k:Int),ZmC (Gp d).length ((K4 d).map Zb6++(((Gk d).take k).filter (λp=>decide (GD p=1))).map GM),())) (λ_ p=>Zjs d p) (step:=λv=>Jl d v.1 v.2.1) (bad:=.inr false) (good:=.inr (tr (Zkn d)))
    (λk p h m _=>by
     have s:=Zv7 (d:=d) k (K4 d).length;rw[Ur]at s;simp only[Jl,show(k:Int)<((Gk d).length:Int)from by omega,Uk,Zv,h,Bq,ZfP d _ L,Zty h];by_cases D:GD p=1
     ·simp only[D,Uk]
      constructor
      ·intro r
       rw[Uc (ZR r.2),ZiB r.2.1 (by have:=r.2.2;omega) (by omega) (F:=λo=>some (Sum.inl (Wq ((k:Int)+1),o,()))),Xd]
      ·intro r
       rw[Ue (by rw[ZT (λq=>r ⟨by omega,q⟩)];simp)]
     ·simp only[D,Uj]
      by_cases b:GD p=2
      ·simp only[b,Uk]
       constructor
       ·intro r
        rw[Uc (ZR r.2),Xd]
       ·intro r
        rw[Ue (by rw[ZT (λq=>r ⟨by omega,q⟩)];simp)]
      ·simp only[b,Uj]
       exact ⟨λr=>by have:=r.1;omega,λ_=>trivial⟩)
    (λ_=>by
     simp only[Jl,Ui,Uj,Ur];rw[Js (show Len _ by show List.length _<=_;rw[Zkw];omega) (λn=>!decide (n=1)) (λn _=>rfl),Bq];congr 3;refine (Zm3 ?_).symm;rw[UO,List.any_eq_false];simp only[UO,Bool.not_eq_false,Ul,Kr,Classical.not_not];exact KT)
   refine(show Zt (λv=>Jl d v.1 v.2.1) ((0:Int),ZmC (Gp d).length ((K4 d).map Zb6),())=_ from(by simpa using this)).trans ?_;by_cases H:ZeM (Gk d) (λ_ p=>Zjs d p)
   ·rw[Xr H];grind
   ·rw[Y7 H,ZT (λq=>H q.1)])
 rw[Zef]at this;refine Eq.trans ?_ this;rw[Ki,List.map_nil,ZpZ];rfl
theorem ZmZ (m:sm VI a) (L:sm Qv d):Zf3 a d=some (tr (ZeM (K4 d) (λ_ x=>Zig a d x)/\ZeM (Gk d) (λ_ p=>Zjs d p))):=by
 obtain ⟨H,f,i⟩:=Zjh L;have S:=ZK H;have u:=ZK f;have v:=ZK i;have w:=ZK (Zy4 m);have e1:Wq (((Gp d).length:Int)-1)=((Gp d).length:Int)-1:=QR;have e:Wq (((Gh a).length:Int)-1)=((Gh a).length:Int)-1:=QR;unfold Zf3;rw[QF (YV H) (λ_ x=>Zig a d x) (bad:=false) (good:=tr (ZeM (Gk d) (λ_ p=>Zjs d p)))
  (λk x l o _=>by
   have G:=Zg1 H l;simp only[ZdC,show(k:Int)<((K4 d).length:Int)from by omega,Uk,Zv,l,Bq,QT,e];by_cases h:0<=GJ x/\GJ x<=((Gh a).length:Int)-1
   ·obtain⟨c,b,z⟩:=Zjv h.1 (show GJ x<((Gh a).length:Int) by omega)
    rw[Uc (ZR h),b,Bq];by_cases g:((Gu x).length:Int)=((K6 c).length:Int)
    ·rw[Uc g,QF (YV (ZpC G).2) (λ_ n=>Zq0 d n) (bad:=.inr false) (good:=.inl (Wq ((k:Int)+1),()))
      (λj n X s _=>by
       simp only[ZdA,show(j:Int)<((Gu x).length:Int)from by omega,Uk,Zv,X,Bq,QT,e1];constructor
       ·intro r;exact Uc (ZR r)
       ·intro r;exact Ue (λq=>r ((Xf _).1 q)))
      (λ_=>by simp only[ZdA,Ui,Uj])]
     constructor
     ·intro r;rw[Xr (JA.2 r.2.2)]
     ·intro r;rw[Y7 (λq=>r ⟨h,⟨c,z,by omega⟩,JA.1 q⟩)]
    ·rw[Ue g]
     refine⟨λr=>?_,λ_=>rfl⟩;obtain⟨_,⟨C,Q,t⟩,_⟩:=r;rw[z]at Q;injection Q with Q;subst Q
     exact absurd (by omega) g
   ·rw[Ue (by rw[ZT h];simp)]
    exact ⟨λr=>absurd r.1 h,λ_=>rfl⟩)
  (λ_=>by
   simp only[ZdC,Ui,Uj];rw[QF (YV f) (λ_ p=>Zjs d p) (bad:=.inr false) (good:=.inr true)
    (λk p l o _=>by
     simp only[ZdB,show(k:Int)<((Gk d).length:Int)from by omega,Uk,Zv,l,Bq,QT,e1];by_cases h:1<=GD p/\GD p<=2
     ·rw[Uc (ZR h)]
      constructor
      ·intro r;exact Uc (ZR r.2)
      ·intro r;exact Ue (λq=>r ⟨h,(Xf _).1 q⟩)
     ·rw[Ue (by rw[ZT h];simp)]
      exact ⟨λr=>absurd r.1 h,λ_=>rfl⟩)
    (λ_=>by simp only[ZdB,Ui,Uj])]
   congr 1;by_cases r:ZeM (Gk d) (λ_ p=>Zjs d p)
   ·rw[Xr r,ZR r]
   ·rw[Y7 r,ZT r])]
 rw[Zef]
theorem Zt2 (h:∀x∈l,(f x).length<=4611686018427387904):∀s∈l.map f,s.length<=4611686018427387904:=by
 intro s q;obtain⟨x,H,rfl⟩:=KQ.1 q;exact h x H
theorem ZmX (A:sm VI a) (L:sm Qv d):Zf1 a d=some (tr (Zbx a d)):=by
 obtain⟨c,u,w⟩:=Zjh L;have S:=ZK c;have O:=ZK u;have X:=ZK w;unfold Zf1;refine ZeO (YO (Zmc a A) (λB=>Zgf (λR=>Zgf (λT=>Zgf (λU=>YO (ZmZ a d A L) (λz=>?_))))))
  (P:=Zq1 a/\¬(14:Int)<((K4 d).length:Int)/\¬(30:Int)<((Gp d).length:Int)/\¬(8:Int)<((Gk d).length:Int)/\(ZeM (K4 d) (λ_ x=>Zig a d x)/\ZeM (Gk d) (λ_ p=>Zjs d p))/\(V4 (Zgn d) (Zgn d).length/\V4 (Zec d) (Zec d).length/\V4 (Gp d) (Gp d).length)/\Zkn d) ?_
 ·have V:(Zgn d).length=(K4 d).length:=by simp[Zgn]
  have W:(Zec d).length=(Gk d).length:=by simp[Zec]
  refine gather (l:=K4 d) S Hb (λk x o h H I=>?_) ?_
  ·simp only[Zdw,H,Uk,Zv,h,Bq]
  simp only[Zdw,Ui,Uj];refine gather (l:=Gk d) O Hc (λk x o h H I=>?_) ?_
  ·simp only[Zdv,H,Uk,Zv,h,Bq]
  simp only[Zdv,Ui,Uj];rw[show List.map Hc (Gk d)=Zec d from rfl,show List.map Hb (K4 d)=Zgn d from rfl];simp only[ZfJ (Zgn d) (by omega) (Zt2 (λx h=>Zgz (ZpC (Zoj c h)).1)),ZfJ (Zec d) (by omega) (Zt2 (λx h=>Zgz (ZCz (Zoj u h)))),ZfJ (Gp d) (by omega) (λs J=>Zgz (Zoj w J)),Bq];by_cases n1:V4 (Zgn d) (Zgn d).length
  ·rw[Uc (ZR n1)]
   by_cases n:V4 (Zec d) (Zec d).length
   ·rw[Uc (ZR n)]
    by_cases y:V4 (Gp d) (Gp d).length
    ·rw[Uc (ZR y),Ra,Ra,Ra,Ra]
     have:=Za1 (l:=K4 d) (ρ:=(List (List UInt8))×Int×Unit⊕((List (List UInt8))×Int×Unit⊕Bool)) (λk=>((k:Int),ZmC (Gp d).length (((K4 d).take k).map Zb6),())) (step:=λv=>Ju d v.1 v.2.1) (good:=.inr (.inr (tr (Zkn d))))
      (λk x h H=>by
       have G:=Zg1 c h;obtain ⟨e1,E⟩:=(z.1 k x h).last B (ZK (ZpC G).2);simp only[Ju,show (k:Int)<((K4 d).length:Int) from by omega,Uk,Zv,h,Bq];rw[e1,Bq,ZiB E.1 (by have:=E.2;omega) (by simp only[U5,Uo];omega) (F:=λo=>some (Sum.inl (Wq ((k:Int)+1),o,()))),XF h,Kp,Xd];rfl)
      (by
       simp only[Ju,Ui,Uj,Ur];have:=Za1 (l:=Gk d) (ρ:=Int×List Int×Unit⊕((List (List UInt8))×Int×Unit⊕((List (List UInt8))×Int×Unit⊕Bool))) (λk=>((k:Int),ZmC (Gp d).length ((K4 d).map Zb6++(((Gk d).take k).filter (λp=>decide (GD p=1))).map GM),())) (step:=λv=>Jt d v.1 v.2.1) (good:=.inr (.inr (.inr (tr (Zkn d)))))
        (λk p h H=>by
         have C:=Zv7 (d:=d) k (K4 d).length;rw[Ur]at C;have b:=z.2 k p h;simp only[Jt,show(k:Int)<((Gk d).length:Int)from by omega,Uk,Zv,h,Bq,Zty h];by_cases D:GD p=1
         ·simp only[D,Uk]
          rw[ZiB b.2.1 (by have:=b.2.2;omega) (by omega) (F:=λo=>some (Sum.inl (Wq ((k:Int)+1),o,()))),Xd]
         ·simp only[D,Uj]
          rw[Xd])
        (by
         simp only[Jt,Ui,Uj,Ur];rw[QF (l:=ZmC (Gp d).length ((K4 d).map Zb6++((Gk d).filter (λp=>decide (GD p=1))).map GM)) (show List.length _<=_ by rw[Zkw];omega) (λ_ x=>x=1) (bad:=.inr (.inr (.inr (.inr false)))) (good:=.inr (.inr (.inr (.inr true))))
          (λk x h H _=>by
           simp only[Zdu,show(k:Int)<((ZmC (Gp d).length ((K4 d).map Zb6++((Gk d).filter (λp=>decide (GD p=1))).map GM)).length:Int)from by omega,Uk,Zv,h,Bq];constructor
           ·intro r;rw[Uc r]
           ·intro r;rw[Ue r])
          (λ_=>by simp only[Zdu,Ui,Uj])]
         congr 1;have e:ZeM (ZmC (Gp d).length ((K4 d).map Zb6++((Gk d).filter (λp=>decide (GD p=1))).map GM)) (λ_ x=>x=1)<->Zkn d:=by
          rw[JA];exact KT
         by_cases r:Zkn d
         ·rw[Xr (e.2 r),ZR r]
         ·rw[Y7 (λq=>r (e.1 q)),ZT r])
       refine (show Zt (λv=>Jt d v.1 v.2.1) ((0:Int),ZmC (Gp d).length ((K4 d).map Zb6),())=_ from (by simpa using this)).trans ?_;rfl)
     rw[Ki,List.map_nil,ZpZ]at this;refine(show Zt (λv=>Ju d v.1 v.2.1) ((0:Int),List.replicate (Gp d).length 0,())=_ from this).trans ?_;congr 3;exact Xj ⟨λq=>⟨⟨n1,n,y⟩,q⟩,λq=>q.2⟩
    ·rw[Ue (by rw[ZT y];simp),ZT (λq=>y q.1.2.2)]
   ·rw[Ue (by rw[ZT n];simp),ZT (λq=>n q.1.2.1)]
  ·rw[Ue (by rw[ZT n1];simp),ZT (λq=>n1 q.1.1)]
 ·unfold Zbx Zkm
  rw[JA,JA];constructor
  ·rintro⟨f,K,M,N,⟨i,j⟩,⟨m,g,t⟩,Q⟩
   exact⟨f,⟨by omega,by omega,by omega,m,t,g⟩,i,j,Q⟩
  ·rintro⟨f,⟨K,M,N,m,t,g⟩,i,j,Q⟩
   exact⟨f,by omega,by omega,by omega,⟨i,j⟩,⟨m,g,t⟩,Q⟩
def cat {α β:Type} (f:Nat->α->List β):Nat->List α->List β
 |_,[]=>[]
 |k,x::r=>f k x++cat f (k+1) r
theorem Zi8 {α β:Type} (f:Nat->α->List β):∀(l r:List α) (m:Nat),cat f m (l++r)=cat f m l++cat f (m+l.length) r
 |[],r,m=>by simp[cat]
 |x::l,r,m=>by
  simp only[U0,cat,Uf,Zi8 f l r,Un];rw[show m+1+l.length=m+(l.length+1) by omega]
theorem ZhI {f:Nat->α->List β} {x:α} (h:l[k]?=some x):cat f 0 (l.take (k+1))=cat f 0 (l.take k)++f k x:=by
 have H:=(Ub.1 h).1;rw[XF h,Zi8];simp only[cat,Uw,Uo,Um];rw[show min k l.length=k by omega]
theorem XZ {α β:Type} {f:Nat->α->List β} {y:β}:∀{l:List α} {m:Nat},y∈cat f m l<->∃(k:Nat) (x:α),l[k]?=some x/\y∈f (m+k) x
 |[],m=>by simp[cat]
 |z::r,m=>by
  simp only[cat,Uu,XZ (l:=r)];constructor
  ·rintro(h|⟨k,x,d,H⟩)
   ·exact⟨0,z,rfl,h⟩
   ·exact⟨k+1,x,by simpa using d,by rw[show m+(k+1)=m+1+k by omega];exact H⟩
  ·rintro⟨k,x,d,H⟩
   cases k with
   |zero=>simp at d;subst d;exact .inl H
   |succ k=>exact .inr ⟨k,x,by simpa using d,by rw[show m+1+k=m+(k+1) by omega];exact H⟩
theorem VJ {α β:Type} {f:Nat->α->List β} {c:Nat}:∀{l:List α} {m:Nat},(∀k,∀x∈l,(f k x).length<=c)->(cat f m l).length<=c*l.length
 |[],m,_=>by simp[cat]
 |z::r,m,h=>by
  simp only[cat,Uh,Uf];have d:=h m z (by simp);have a:=VJ (f:=f) (l:=r) (m:=m+1) (λk x H=>h k x (by simp[H]));rw[Nat.mul_add];omega
theorem Xx (f:Nat->α->List β) (a:List β) {step:List β×Int×Unit->Option ((List β×Int×Unit)⊕ρ)}
  (q:∀(k:Nat) (x:α),l[k]?=some x->k<l.length->step (a++cat f 0 (l.take k),(k:Int),())=some (.inl ((a++cat f 0 (l.take k))++f k x,((k+1:Nat):Int),())))
  (h:step (a++cat f 0 l,(l.length:Int),())=some (.inr good)):Zt step (a,(0:Int),())=some good:=by
 have:=Za1 (l:=l) (ρ:=ρ) (λk=>(a++cat f 0 (l.take k),(k:Int),())) (step:=step) (good:=good) (λk x h H=>by
  rw[q k x h H,ZhI h,Un]) (by simp only[Ur];exact h)
 simpa[cat]using this
abbrev Pl:=Int×Int×Int×Bool×Unit
def Zah (i:Nat) (x:Zp):List Pl:=cat (λj n=>[((i:Int),(j:Int),n,decide ((j:Int)=Wq (((Gu x).length:Int)-1)),())]) 0 (Gu x)
def Zgq (j:Nat) (p:Y8):List Pl:=[((-1:Int),(j:Int),GM p,decide (GD p=1),())]
def ZB (d:Ze):List Pl:=cat Zah 0 (K4 d)++cat Zgq 0 (Gk d)
theorem ZuI (i:Nat) (x:Zp):(Zah i x).length<=(Gu x).length:=by
 have:=VJ (f:=λj n=>[((i:Int),(j:Int),n,decide ((j:Int)=Wq (((Gu x).length:Int)-1)),())]) (c:=1) (l:=Gu x) (m:=0) (λ_ _ _=>by simp);simpa[Zah]using this
structure Few (d:Ze):Prop where
 insts:(K4 d).length<=14
 ports:(Gk d).length<=8
 nets:∀x∈K4 d,(Gu x).length<=5
variable {a:ZI} {d:Ze}
theorem Zbx.few (h:Zbx a d):Few d:=by
 refine⟨h.2.1.1,h.2.1.2.2.1,λx l=>?_⟩;obtain⟨_,⟨c,q,X⟩,_⟩:=h.2.2.1 x l;have:=(h.1.2.1 c (Ud q)).2.1.2.1;omega
theorem ZdK (h:Few d) (k:Nat):(cat Zah 0 ((K4 d).take k)).length<=70:=by
 have:=VJ (f:=Zah) (c:=5) (l:=(K4 d).take k) (m:=0) (λi x a=>by
  have H:=ZuI i x;have b:=h.nets x (List.mem_of_mem_take a);omega)
 have H:=h.insts;rw[Uo]at this;omega
theorem ZiA (h:Few d) (k:Nat):(cat Zgq 0 ((Gk d).take k)).length<=8:=by
 have:=VJ (f:=Zgq) (c:=1) (l:=(Gk d).take k) (m:=0) (λi x a=>by simp[Zgq]);have H:=h.ports;rw[Uo]at this;omega
theorem YT (h:Few d):(ZB d).length<=78:=by
 have H:=ZdK h (K4 d).length;have f:=ZiA h (Gk d).length;rw[Ur]at H f;unfold ZB;rw[Uh];omega
variable (d:Ze)
theorem Xm (h:Few d):Qh d=some (ZB d):=by
 have a:=h.insts;have e:=h.ports;unfold Qh;refine Xx (l:=K4 d) Zah [] (λk x H g=>?_) ?_
 ·have X:=h.nets x (Ud H)
  have q:=ZdK h k;simp only[Uq,Zaw,show(k:Int)<((K4 d).length:Int)from by omega,Uk,Zv,H,Bq];refine Xx (l:=Gu x) (λj n=>[((k:Int),(j:Int),n,decide ((j:Int)=Wq (((Gu x).length:Int)-1)),())]) _ (λj n b u=>?_) ?_
  ·have R:=VJ (f:=λj n=>[((k:Int),(j:Int),n,decide ((j:Int)=Wq (((Gu x).length:Int)-1)),())]) (c:=1) (l:=(Gu x).take j) (m:=0) (λ_ _ _=>by simp)
   rw[Uo]at R;simp only[Zau,show(j:Int)<((Gu x).length:Int)from by omega,Uk,Zv,b,Bq];rw[Zk (by rw[Uh,UV];omega),Xd]
  ·simp only[Zau,Ui,Uj]
   rw[Xd];rfl
 ·have q:=ZdK h (K4 d).length
  rw[Ur]at q;simp only[Uq,Zaw,Ui,Uj];refine Xx (l:=Gk d) Zgq _ (λj p b u=>?_) ?_
  ·have R:=ZiA h j
   simp only[Zav,show(j:Int)<((Gk d).length:Int)from by omega,Uk,Zv,b,Bq];rw[Zk (by rw[Uh,UV];omega),Xd];rfl
  ·simp only[Zav,Ui,Uj];rfl
theorem Y5 (h:Few d):YU d=some (ZB d):=by
 have a:=h.insts;have e:=h.ports;unfold YU;refine Xx (l:=K4 d) Zah [] (λk x H g=>?_) ?_
 ·have X:=h.nets x (Ud H)
  have q:=ZdK h k;simp only[Uq,ZcN,show(k:Int)<((K4 d).length:Int)from by omega,Uk,Zv,H,Bq];refine Xx (l:=Gu x) (λj n=>[((k:Int),(j:Int),n,decide ((j:Int)=Wq (((Gu x).length:Int)-1)),())]) _ (λj n b u=>?_) ?_
  ·have R:=VJ (f:=λj n=>[((k:Int),(j:Int),n,decide ((j:Int)=Wq (((Gu x).length:Int)-1)),())]) (c:=1) (l:=(Gu x).take j) (m:=0) (λ_ _ _=>by simp)
   rw[Uo]at R;simp only[ZcL,show(j:Int)<((Gu x).length:Int)from by omega,Uk,Zv,b,Bq];rw[Zk (by rw[Uh,UV];omega),Xd]
  ·simp only[ZcL,Ui,Uj]
   rw[Xd];rfl
 ·have q:=ZdK h (K4 d).length
  rw[Ur]at q;simp only[Uq,ZcN,Ui,Uj];refine Xx (l:=Gk d) Zgq _ (λj p b u=>?_) ?_
  ·have R:=ZiA h j
   simp only[ZcM,show(j:Int)<((Gk d).length:Int)from by omega,Uk,Zv,b,Bq];rw[Zk (by rw[Uh,UV];omega),Xd];rfl
  ·simp only[ZcM,Ui,Uj];rfl
def Zgs (net:Int) (i:Nat) (x:Pl):List Int:=if x.2.2.1=net then(if x.2.2.2.1=true then[]else[(i:Int)])else[]
def Zae (d:Ze) (net:Int):List Int:=cat (Zgs net) 0 (ZB d)
variable (net:Int)
theorem Zeg (l:List Pl) (m:Nat):(cat (Zgs net) m l).length<=l.length:=by
 have:=VJ (f:=Zgs net) (c:=1) (l:=l) (m:=m) (λi x _=>by
  unfold Zgs;split
  ·split<;>simp
  ·simp)
 omega
theorem ZcG (h:Few d):Zct d net=some (Zae d net):=by
 have g:=YT h;unfold Zct;rw[Xm d h,Bq];refine Xx (l:=ZB d) (Zgs net) [] (λk x H a=>?_) ?_
 ·have q:=Zeg net ((ZB d).take k) 0
  rw[Uo]at q;simp only[Uq,ZaU,show(k:Int)<((ZB d).length:Int)from by omega,Uk,Zv,H,Bq,Zgs,Xd (show k<=1048576 by omega)];split
  ·split
   ·rw[Um]
   ·rw[Zk (by
     show(List.length _+1)*8<=_;have:(cat (Zgs net) 0 ((ZB d).take k)).length<=78:=by omega
     omega)]
  ·rw[Um]
 ·simp only[Uq,ZaU,Ui,Uj];rfl
theorem Zdf (h:Few d):Za4 d net=some (Zae d net):=by
 have g:=YT h;unfold Za4;rw[Y5 d h,Bq];refine Xx (l:=ZB d) (Zgs net) [] (λk x H a=>?_) ?_
 ·have q:=Zeg net ((ZB d).take k) 0
  rw[Uo]at q;simp only[Uq,ZdD,show(k:Int)<((ZB d).length:Int)from by omega,Uk,Zv,H,Bq,Zgs,Xd (show k<=1048576 by omega)];split
  ·split
   ·rw[Um]
   ·rw[Zk (by
     show(List.length _+1)*8<=_;have:(cat (Zgs net) 0 ((ZB d).take k)).length<=78:=by omega
     omega)]
  ·rw[Um]
 ·simp only[Uq,ZdD,Ui,Uj];rfl
def loads (d:Ze):List Int:=((ZB d).filter (λx=>!x.2.2.2.1)).map (λx=>x.2.2.1)
theorem Zoh (net:Int):∀(l:List Pl) (m:Nat),(cat (Zgs net) m l).length=((l.filter (λx=>!x.2.2.2.1)).map (λx=>x.2.2.1)).countP (λy=>decide (y=net))
 |[],m=>by simp[cat]
 |x::r,m=>by
  simp only[cat,Uh,Zoh net r,Zgs];obtain⟨a,b,n,d,u⟩:=x;cases d
  ·by_cases e:n=net
   ·simp[e,Nat.add_comm]
   ·simp[e]
  ·simp
theorem ZrZ {w:ZC} (h:sm Zm2 w):sm (.sl (.int .i64)) (K5 w)/\sm (.sl (.int .i64)) (GC w)/\sm (.sl (.int .i64)) (GU w)/\sm (.sl (.int .i64)) (Gv w):=by
 refine⟨?_,?_,?_,?_⟩;all_goals first|exact h.1|exact h.2.1|exact h.2.2.1|exact h.2.2.2.1
variable {b:Zc}
theorem Zkc (h:sm Xi b):sm VI (GG b)/\sm Qv (K3 b)/\sm (.sl Zm2) (Gl b):=by
 refine⟨?_,?_,?_⟩;all_goals first|exact h.1|exact h.2.1|exact h.2.2.1|exact h.2.2.2.1
def Znk (w:ZC) (k:Nat) (x:Int):Prop:=(k=0->x=-1/\(GC w)[0]?=some 0)/\(0<k->0<=x/\x<=(k:Int)-1)
def Zhn (w:ZC) (s:Int):Prop :=
 (1<=(K5 w).length/\(K5 w).length<=8)/\(GC w).length=(K5 w).length/\(GU w).length=(K5 w).length/\((Gv w).length:Int)=s/\
 ZeM (K5 w) (Znk w)/\Zhj (GC w) 0 1000/\Zhj (GU w) 0 500/\Zhj (Gv w) 0 (((K5 w).length:Int)-1)
theorem Zfj (l:List Int) (o h:Int) (q:l.length<=1048576):Xy l o h=some (tr (Zhj l o h)):=by
 rw[Zcv l o h];exact ZbT (Zko _ _ _)
variable (w:ZC)
theorem Zj1 (c:sm Zm2 w) (d:1<=(K5 w).length:=by omega) (f:(GC w).length=(K5 w).length:=by omega):Zda w=some (tr (ZeM (K5 w) (Znk w))):=by
 obtain ⟨a,A,j,b⟩:=ZrZ c;have s:=ZK a;unfold Zda;have F:(GC w)[0]?=some (GC w)[0]:=Ua (by omega);rw[QF (YV a) (Znk w) (bad:=false) (good:=true)
  (λk x l e _=>by
   simp only[Zbp,show(k:Int)<((K5 w).length:Int)from by omega,Uk,Zv,l,Bq];unfold Znk;by_cases H:k=0
   ·subst H
    rw[Uc (by rfl),show atI (GC w) 0=some (GC w)[0]from F,F];grind
   ·rw[QQ,QP,Qs,Bq,QR]
    constructor
    ·intro r;rw[Uc (ZR (r.2 (by omega)))]
    ·intro r;rw[Ue (λq=>r ⟨λh=>absurd h H,λ_=>(Xf _).1 q⟩)])
  (λ_=>by simp only[Zbp,Ui,Uj]),Zhz]
variable (s:Int)
theorem ZoL (c:sm Zm2 w):ZhO w s=some (tr (Zhn w s)):=by
 obtain⟨a,A,j,k⟩:=ZrZ c;have g:=ZK a;have S:=ZK A;have t:=ZK j;have b:=ZK k;unfold ZhO;simp only[Zao,Bq,Yy (show(-9223372036854775808:Int)<=((K5 w).length:Int)-1 by omega)];refine ZeO (YO (Qs _ _ _) (λQ=>Qp (λq=>Qp (λd=>YO (Zj1 w c) (λf=>YO (Zfj _ _ _ S) (λi=>YO (Zfj _ _ _ t) (λe=>Qp (λm=>Zdj (Zfj _ _ _ b))))))))) ?_;unfold Zhn;grind
theorem Ztd {l:List Int} {o:Int}:Zhj l o i<->∀(k:Nat) (x:Int),l[k]?=some x->o<=x/\x<=i:=by
 unfold Zhj;constructor
 ·intro h k x H;exact h x (Ud H)
 ·intro h x H
  obtain⟨k,a⟩:=UA.1 H;exact h k x a
theorem ZoX (y:sm Zm2 w):Zh5 w s=some (tr (Zhn w s)):=by
 obtain⟨A,u,v,n⟩:=ZrZ y;have S:=ZK A;have D:=ZK u;have E:=ZK v;have G:=ZK n;have e1:Wq (((K5 w).length:Int)-1)=((K5 w).length:Int)-1:=QR;unfold Zh5;refine ZeO (Zgf (λo=>Zgf (λp=>Qp (λt=>Qp (λz=>Qp (λi=>?_)))))) ?_
  (P:=¬((K5 w).length:Int)<1/\¬(8:Int)<((K5 w).length:Int)/\((GC w).length:Int)=((K5 w).length:Int)/\((GU w).length:Int)=((K5 w).length:Int)/\((Gv w).length:Int)=s/\
   (ZeM (K5 w) (λk x=>(∀ c,(GU w)[k]?=some c->0<=c/\c<=500)/\(∀ r,(GC w)[k]?=some r->0<=r/\r<=1000)/\Znk w k x)/\Zhj (Gv w) 0 (((K5 w).length:Int)-1)))
 ·rw[QF (YV A) (λk x=>(∀ c,(GU w)[k]?=some c->0<=c/\c<=500)/\(∀ r,(GC w)[k]?=some r->0<=r/\r<=1000)/\Znk w k x) (bad:=false) (good:=tr (Zhj (Gv w) 0 (((K5 w).length:Int)-1)))
   (λk x b d _=>by
    have a:(GU w)[k]?=some (GU w)[k]:=Ua (by omega);have F:(GC w)[k]?=some (GC w)[k]:=Ua (by omega);simp only[Ze0,show(k:Int)<((K5 w).length:Int)from by omega,Uk,Zv,a,F,b,Bq,QT,Option.some.injEq,forall_eq'];generalize (GU w)[k]=c at a;generalize (GC w)[k]=r at F;by_cases Q:0<=c/\c<=500
    ·rw[Uc (ZR Q)]
     by_cases g:0<=r/\r<=1000
     ·rw[Uc (ZR g)]
      unfold Znk;by_cases f:k=0
      ·simp_all
      ·rw[QQ,QP,Yy (show(-9223372036854775808:Int)<=(k:Int)-1 by omega)]
       constructor
       ·intro H;rw[Uc (ZR (H.2.2.2 (by omega)))]
       ·intro H;rw[Ue (λq=>H ⟨Q,g,λh=>absurd h f,λ_=>(Xf _).1 q⟩)]
     ·rw[Ue (λq=>g ((Xf _).1 q))]
      grind
    ·rw[Ue (λq=>Q ((Xf _).1 q))]
     grind)
   (λ_=>by
    simp only[Ze0,Ui,Uj];rw[QF (YV n) (λ_ x=>0<=x/\x<=((K5 w).length:Int)-1) (bad:=.inr false) (good:=.inr true)
     (λk x b d _=>by
      simp only[ZeZ,show(k:Int)<((Gv w).length:Int)from by omega,Uk,Zv,b,Bq,QT,e1];constructor
      ·intro H;rw[Uc (ZR H)]
      ·intro H;rw[Ue (λq=>H ((Xf _).1 q))])
     (λ_=>by simp only[ZeZ,Ui,Uj])]
    congr 1;have e:ZeM (Gv w) (λ_ x=>0<=x/\x<=((K5 w).length:Int)-1)<->Zhj (Gv w) 0 (((K5 w).length:Int)-1):=JA;by_cases H:Zhj (Gv w) 0 (((K5 w).length:Int)-1)
    ·rw[Xr (e.2 H),ZR H]
    ·rw[Y7 (λq=>H (e.1 q)),ZT H]),Zef]
 ·unfold Zhn
  rw[Ztd (l:=GC w),Ztd (l:=GU w)];constructor
  ·rintro⟨o,p,t,z,i,j,m⟩
   refine⟨⟨by omega,by omega⟩,by omega,by omega,i,λk x b=>(j k x b).2.2,λk r F=>?_,λk c a=>?_,m⟩
   ·have d:=(Ub.1 F).1
    exact(j k _ (Ua (by omega))).2.1 r F
   ·have d:=(Ub.1 a).1
    exact(j k _ (Ua (by omega))).1 c a
  ·rintro⟨o,p,t,i,j,m,B,C⟩
   exact⟨by omega,by omega,by omega,by omega,i,λk x b=>⟨λc a=>B k c a,λr F=>m k r F,j k x b⟩,C⟩
def ZjL (b:Zc):Prop :=
 Zbx (GG b) (K3 b)/\(Gl b).length=(Gp (K3 b)).length/\ZeM (Gl b) (λk w=>Zhn w ((Zae (K3 b) (k:Int)).length:Int))
variable {d:Ze} {x:Pl}
theorem Zn7 (h:Zbx a d) (l:x∈ZB d):Zq0 d x.2.2.1:=by
 unfold ZB at l;rcases Uu.1 l with l|l
 ·obtain⟨i,z,H,T⟩:=XZ.1 l
  unfold Zah at T;obtain⟨j,n,b,X⟩:=XZ.1 T;simp only[Ut]at X;subst X;exact(h.2.2.1 z (Ud H)).2.2 n (Ud b)
 ·obtain⟨j,p,b,g⟩:=XZ.1 l
  simp only[Zgq,Ut]at g;subst g;exact(h.2.2.2.1 p (Ud b)).2
theorem Zeh (b:Zc) (h:sm Xi b):Zcb b=some (tr (ZjL b)):=by
 obtain⟨a,A,j⟩:=Zkc h;have t:=ZK j;unfold Zcb;refine ZeO (YO (ZmX _ _ a A) (λd=>Qp (λQ=>?_))) ?_
  (P:=Zbx (GG b) (K3 b)/\((Gl b).length:Int)=((Gp (K3 b)).length:Int)/\ZeM (Gl b) (λk w=>Zhn w ((Zae (K3 b) (k:Int)).length:Int)))
 ·rw[QF (YV j) (λk w=>Zhn w ((Zae (K3 b) (k:Int)).length:Int)) (bad:=false) (good:=true)
   (λk w l H _=>by
    simp only[Zei,show(k:Int)<((Gl b).length:Int)from by omega,Uk,Zv,l,Bq,Zdf _ _ d.few,ZoX w _ (Zg1 j l)];constructor
    ·intro r;rw[Uc (ZR r)]
    ·intro r;rw[Ue (λq=>r ((Xf _).1 q))])
   (λ_=>by simp only[Zei,Ui,Uj]),Zhz]
 ·unfold ZjL
  grind
theorem ZuO {l:List Pl} (h:l[k]?=some x) :
  (((l.take (k+1)).filter (λx=>!x.2.2.2.1)).map (λx=>x.2.2.1))=if x.2.2.2.1=true then(((l.take k).filter (λx=>!x.2.2.2.1)).map (λx=>x.2.2.1))else(((l.take k).filter (λx=>!x.2.2.2.1)).map (λx=>x.2.2.1))++[x.2.2.1]:=by
 rw[XF h,List.filter_append,Kp];grind
theorem ZbX (b:Zc) (e:sm Xi b):ZbW b=some (tr (ZjL b)):=by
 obtain⟨A,c,j⟩:=Zkc e;have t:=ZK j;unfold ZbW;refine ZeO (YO (ZmP _ _ A c) (λd=>Qp (λQ=>?_))) ?_
  (P:=Zbx (GG b) (K3 b)/\((Gl b).length:Int)=((Gp (K3 b)).length:Int)/\ZeM (Gl b) (λk w=>Zhn w ((Zae (K3 b) (k:Int)).length:Int)))
 ·rw[Ra,Ra,Ra,Ra,Xm _ d.few,Bq]
  have g:=YT d.few;have:=Za1 (l:=ZB (K3 b)) (ρ:=Bool) (λk=>((k:Int),ZmC (Gl b).length ((((ZB (K3 b)).take k).filter (λx=>!x.2.2.2.1)).map (λx=>x.2.2.1)),())) (step:=λv=>Zbz b (ZB (K3 b)) v.1 v.2.1) (good:=tr (ZeM (Gl b) (λk w=>Zhn w ((Zae (K3 b) (k:Int)).length:Int))))
   (λk x h a=>by
    have X:=Zn7 d (Ud h);have H:=List.length_filter_le (λx:Pl=>!x.2.2.2.1) ((ZB (K3 b)).take k);rw[Uo]at H;simp only[Zbz,show(k:Int)<((ZB (K3 b)).length:Int)from by omega,Uk,Zv,h,Bq,ZuO h];by_cases L:x.2.2.2.1=true
    ·rw[Uc L,Uc L,Xd]
    ·rw[Ue L,Ue L,ZiB X.1 (by have:=X.2;grind) (by grind) (F:=λo=>some (Sum.inl (Wq ((k:Int)+1),o,()))),Xd])
   (by
    simp only[Zbz,Ui,Uj,Ur];rw[QF (YV j) (λk w=>Zhn w ((Zae (K3 b) (k:Int)).length:Int)) (bad:=.inr false) (good:=.inr true)
     (λk w h a _=>by
      have f:(Zae (K3 b) (k:Int)).length=_:=Zoh (k:Int) (ZB (K3 b)) 0;simp only[Zd2,show(k:Int)<((Gl b).length:Int)from by omega,Uk,Zv,h,Bq];rw[Zkv a,Bq,ZoL w _ (Zg1 j h),Bq,f];constructor
      ·intro r;rw[Uc (ZR r)]
      ·intro r;rw[Ue (λq=>r ((Xf _).1 q))])
     (λ_=>by simp only[Zd2,Ui,Uj])]
    congr 1;by_cases r:ZeM (Gl b) (λk w=>Zhn w ((Zae (K3 b) (k:Int)).length:Int))
    ·rw[Xr r,ZR r]
    ·rw[Y7 r,ZT r])
  rw[Ki,List.filter_nil,List.map_nil,ZpZ]at this;exact this
 ·unfold ZjL
  grind
structure Xh (b:Zc):Prop where
 ok:ZjL b
 sm:sm Xi b
theorem Zdq (Q:ρ->Prop) {step:τ->Option (τ⊕ρ)} (h:I 0 v)
  (q:∀(k:Nat) (x:α) (v:τ),l[k]?=some x->k<l.length->I k v->∃v',step v=some (.inl v')/\I (k+1) v')
  (a:∀v,I l.length v->∃r,step v=some (.inr r)/\Q r):∃r,Zt step v=some r/\Q r :=
 ZdQ l.length I Q h (λk v H m=>.inl (q k l[k] v (Ua H) H m)) a
theorem Zfk (k:0<=i) (d:i<(l.length:Int):=by omega):∃x,atI l i=some x/\x∈l:=by
 obtain⟨x,f,g⟩:=Zjv k d;grind
theorem Zw3 (h:Zbx a d) (l:x∈ZB d):∃n,Je d a x=some n:=by
 unfold Je;split
 ·exact⟨_,rfl⟩
 ·rename_i g
  unfold ZB at l;rcases Uu.1 l with l|l
  ·obtain⟨i,z,b,T⟩:=XZ.1 l
   unfold Zah at T;obtain⟨j,n,e,X⟩:=XZ.1 T;simp only[Ut]at X;subst X;rw[Uw]at g;obtain⟨q,⟨c,H,f⟩,_⟩:=h.2.2.1 z (Ud b);have k:=(Ub.1 e).1;simp only[G9,Y6.pin,Uw,Zv,b,Bq];rw[Qt q.1 H,Bq];grind
  ·obtain⟨j,p,e,m⟩:=XZ.1 l
   simp only[Zgq,Ut]at m;grind
variable {y:Int}
theorem ZiR {net:Int} (h:y∈Zae d net):0<=y/\y<((ZB d).length:Int):=by
 obtain⟨k,x,H,i⟩:=XZ.1 h;have:=(Ub.1 H).1;unfold Zgs at i;grind
variable {w:ZC} {s x:Int}
theorem Zhn.par (h:Zhn w s) (l:(K5 w)[k]?=some x) (H:0<k):0<=x/\x<=(k:Int)-1:=(h.2.2.2.2.1 k x l).2 H
theorem ZhW (h:Xh b) (B:(Gl b)[k]?=some w):∃r,YE b (k:Int)=some r/\r.length=(K5 w).length:=by
 have F:=h.ok.2.2 k w B;have u:=h.ok.1;have f:=u.few;obtain⟨⟨Z,Q⟩,lr,S,ls,M,O,N,n⟩:=F;have K:=YT f;have L:=Zeg (k:Int) (ZB (K3 b)) 0;have A:(Zae (K3 b) (k:Int)).length<=78:=by unfold Zae;omega
 unfold YE;rw[Zv,B,Bq];unfold Xa;rw[Zk (by simp;omega),Bq,Xm _ f,Bq,ZcG _ _ f,Bq];refine Zdq (l:=Zae (K3 b) (k:Int)) (λm v=>v.1=(m:Int)/\v.2.1.length=(K5 w).length) _ ⟨rfl,by simp;omega⟩ ?_ ?_
 ·rintro m y ⟨i,l,⟨⟩⟩ C P ⟨d,H⟩
  simp only at d H;subst d;have T:(Gv w)[m]?=some (Gv w)[m]:=Ua (by omega);generalize (Gv w)[m]=z at T;have t:=n z (Ud T);obtain⟨q,e,_⟩:=Zfk (l:=l) t.1;obtain⟨s,J⟩:=ZiR (Ud C);obtain⟨p,o,a⟩:=Zfk s J;obtain⟨c,G⟩:=Zw3 u a;simp only[Xo,show(m:Int)<((Zae (K3 b) (k:Int)).length:Int)from by omega,Uk,Zv,C,T,Bq,e,o,G];exact⟨_,rfl,by rw[Xd],by simp[H]⟩
 ·rintro⟨i,l,⟨⟩⟩ ⟨d,H⟩
  simp only at d H;subst d;simp only[Xo,Ui,Uj];have:=Ze5 (σ:=Int×List Int×Unit) (ρ:=(Int×List Int×Unit)⊕List Int) (step:=λv=>X7 w v.1 v.2.1) (λv=>(∃j:Nat,v.1=(j:Int)/\j<(K5 w).length)/\v.2.1.length=(K5 w).length) (λv=>v.1.toNat) (λr=>∃D,r=.inr D/\D.length=(K5 w).length) (v:=(Wq ((l.length:Int)-1),l,()))
   ⟨⟨l.length-1,by show Wq _=_;rw[Zhm],by omega⟩,H⟩
   (by
    rintro⟨i,l,⟨⟩⟩ ⟨⟨j,x,I⟩,H⟩;simp only at x H;subst x;simp only[X7];by_cases E:(0:Int)<(j:Int)
    ·rw[Uc E]
     have g:(K5 w)[j]?=some (K5 w)[j]:=Ua (by omega);generalize (K5 w)[j]=p at g;have a:=(M j p g).2 (by omega);obtain⟨q,e,_⟩:=Zfk (l:=l) a.1;have R:l[j]?=some l[j]:=Ua (by omega);simp only[Zv,g,Bq,e,R];left;refine⟨_,rfl,⟨⟨j-1,by rw[Zhm],by omega⟩,by simp[H]⟩,?_⟩;show(Wq ((j:Int)-1)).toNat<((j:Int)).toNat;rw[Zhm];omega
    grind)
  grind
variable {v:Nat}
theorem ZuN (h:Xh b) (c:(Gl b)[v]?=some w):ZcC b (v:Int)=YE b (v:Int):=by
 have H:=h.ok.1.few;unfold ZcC YE;rw[Zv,c,Bq,Bq,show ZaL (GU w)=Xa (GU w)from rfl,Y5 _ H,Xm _ H,Zdf _ _ H,ZcG _ _ H];refine Ka (Option.bind _) ?_;funext l;rw[Bq,Bq,Bq,Bq];refine Ka (λf=>Zt f _) ?_;funext u;obtain⟨i,l,⟨⟩⟩:=u;simp only[Zgt,Xo];split
 ·cases atI (Zae (K3 b) (v:Int)) i with
  |none =>
   cases atI (Gv w) i with
   |none=>rfl
   |some z =>
    simp only[Bq,Option.bind_none];cases atI l z<;>rfl
  |some y =>
   cases atI (Gv w) i with
   |none=>rfl
   |some z =>
    simp only[Bq];cases atI l z with
    |none=>rfl
    |some q=>rfl
 ·rfl
def ZlT:List Int->Int
 |[]=>0
 |x::r=>x+ZlT r
theorem ZnV:∀l r:List Int,ZlT (l++r)=ZlT l+ZlT r
 |[],r=>by show ZlT r=0+ZlT r;omega
 |x::l,r=>by
  show x+ZlT (l++r)=x+ZlT l+ZlT r;rw[ZnV l r];omega
theorem Zqj:∀{l:List Int} {i:Nat} {x:Int} (c:Int),l[i]?=some x->ZlT (l.set i (x+c))=ZlT l+c
 |[],i,x,c,h=>by simp at h
 |y::l,0,x,c,h=>by
  have:y=x:=by simpa using h
  subst this;show y+c+ZlT l=y+ZlT l+c;omega
 |y::l,i+1,x,c,h=>by
  show y+ZlT (l.set i (x+c))=y+ZlT l+c;rw[Zqj c (by simpa using h)];omega
theorem Zqi:∀{l:List Int},(∀x∈l,0<=x)->0<=ZlT l/\∀x∈l,x<=ZlT l
 |[],_=>⟨U7 _,λx H=>by cases H⟩
 |y::l,h=>by
  obtain⟨d,f⟩:=Zqi (l:=l) λx H=>h x (UP _ H);have i:=h y UK;refine⟨by show 0<=y+ZlT l;omega,λx H=>?_⟩;show x<=y+ZlT l;rcases Us.1 H with rfl|H
  ·omega
  ·have:=f x H;omega
theorem ZwC:∀{l:List Int} {c:Int},(∀x∈l,x<=c)->ZlT l<=(l.length:Int)*c
 |[],c,_=>by show(0:Int)<=((0:Nat):Int)*c;simp
 |y::l,c,h=>by
  have d:=ZwC (l:=l) (c:=c) λx H=>h x (UP _ H);have f:=h y UK;show y+ZlT l<=((l.length+1:Nat):Int)*c;rw[show((l.length+1:Nat):Int)=(l.length:Int)+1 by omega,Int.add_mul,Int.one_mul];omega
variable {l:List Int}
theorem ZlX {i:Nat} (h:y∈l.set i x):y=x\/y∈l:=(Ke h).symm
theorem ZrL (h:Zbx a d) {x:Pl} (l:x∈ZB d):∃n,Je d a x=some n/\0<=n/\n<=500:=by
 unfold Je;split
 ·exact⟨_,rfl,by omega,by omega⟩
 ·rename_i g
  unfold ZB at l;rcases Uu.1 l with l|l
  ·obtain⟨i,z,f,T⟩:=XZ.1 l
   unfold Zah at T;obtain⟨j,n,k,X⟩:=XZ.1 T;simp only[Ut]at X;subst X;rw[Uw]at g;obtain⟨q,⟨c,H,m⟩,_⟩:=h.2.2.1 z (Ud f);have o:=(Ub.1 k).1;have s:=(h.1.2.1 c (Ud H)).2.1;simp only[G9,Y6.pin,Uw,Zv,f,Bq];rw[Qt q.1 H,Bq];have b:(K6 c)[j]?=some (K6 c)[j]:=Ua (by omega);rw[b,Bq];have e:=(s.2.2.2 j _ b).1;exact⟨_,rfl,e.1,e.2⟩
  ·obtain⟨j,p,k,b⟩:=XZ.1 l
   simp only[Zgq,Ut]at b;subst b;exact absurd (by show(-1:Int)<0;omega) g
theorem ZrE (h:Xh b) (X:(Gl b)[k]?=some w):∃r,YE b (k:Int)=some r/\r.length=(K5 w).length/\∀x∈r,0<=x/\x<=43000:=by
 have hW:=h.ok.2.2 k w X;have U:=h.ok.1;have G:=U.few;obtain⟨⟨l1,l8⟩,lr,lc,ls,ht,ar,Q,F⟩:=hW;have a2:=YT G;have a5:=Zeg (k:Int) (ZB (K3 b)) 0;have W:(Zae (K3 b) (k:Int)).length<=78:=by unfold Zae;omega
 have a0:ZlT (GU w)<=4000:=by
  have:=ZwC (l:=GU w) (c:=500) λx a=>(Q x a).2;omega
 unfold YE;rw[Zv,X,Bq];unfold Xa;rw[Zk (by simp;omega),Bq,Xm _ G,Bq,ZcG _ _ G,Bq,Uq];refine Zdq (l:=Zae (K3 b) (k:Int)) (λm v=>v.1=(m:Int)/\v.2.1.length=(K5 w).length/\(∀x∈v.2.1,0<=x)/\ZlT v.2.1<=4000+(m:Int)*500) _ ⟨rfl,by simp;omega,λx a=>(Q x a).1,by simp only;omega⟩ ?_ ?_
 ·rintro m y ⟨i,l,⟨⟩⟩ N hm ⟨u,g,d,f⟩
  simp only at u g d f;subst u;have T:(Gv w)[m]?=some (Gv w)[m]:=Ua (by omega);generalize (Gv w)[m]=z at T;have D:=F z (Ud T);obtain⟨q,e,s⟩:=Zfk (l:=l) D.1;obtain⟨O,P⟩:=ZiR (Ud N);obtain⟨p,K,o⟩:=Zfk O P;obtain⟨c,hc,c0,c5⟩:=ZrL U o;have a3:=d q s;have a4:=(Zqi d).2 q s;have t:l[z.toNat]?=some q:=by
   unfold atI at e;rw[Uc D.1]at e;exact e
  simp only[Xo,show(m:Int)<((Zae (K3 b) (k:Int)).length:Int)from by omega,Uk,Zv,N,T,Bq,e,K,hc];rw[QR (n:=q+c)];refine⟨_,rfl,by rw[Xd],by simp[g],λx a=>?_,?_⟩
  ·rcases ZlX a with rfl|a
   ·omega
   ·exact d x a
  ·simp only
   rw[Zqj c t];omega
 ·rintro⟨i,l,⟨⟩⟩ ⟨u,g,d,f⟩
  simp only at u g d f;subst u;simp only[Xo,Ui,Uj];have hT:ZlT l<=43000:=by omega
  have H:∀x∈l,0<=x/\x<=43000:=λx a=>⟨d x a,by have:=(Zqi d).2 x a;omega⟩;have:=Ze5 (σ:=Int×List Int×Unit) (ρ:=(Int×List Int×Unit)⊕List Int) (step:=λv=>X7 w v.1 v.2.1) (λv=>(∃j:Nat,v.1=(j:Int)/\j<(K5 w).length/\ZlT (v.2.1.take (j+1))<=43000)/\v.2.1.length=(K5 w).length/\∀x∈v.2.1,0<=x/\x<=43000) (λv=>v.1.toNat) (λr=>∃E,r=.inr E/\E.length=(K5 w).length/\∀x∈E,0<=x/\x<=43000) (v:=(Wq ((l.length:Int)-1),l,()))
   ⟨⟨l.length-1,by show Wq _=_;rw[Zhm],by omega,by simp only;rw[KO (by omega)];exact hT⟩,g,H⟩
   (by
    rintro⟨i,l,⟨⟩⟩ ⟨⟨j,V,a1,A⟩,g,H⟩;simp only at V g A H;subst V;simp only[X7];by_cases S:(0:Int)<(j:Int)
    ·rw[Uc S]
     have I:(K5 w)[j]?=some (K5 w)[j]:=Ua (by omega);generalize (K5 w)[j]=p at I;have o:=(ht j p I).2 (by omega);obtain⟨q,e,s⟩:=Zfk (l:=l) o.1;have t:l[p.toNat]?=some q:=by
      unfold atI at e;rw[Uc o.1]at e;exact e
     have R:l[j]?=some l[j]:=Ua (by omega);generalize l[j]=y at R;have N:=H y (Ud R);have hq:=H q s;simp only[Zv,I,Bq,e,R];rw[QR (n:=q+y)];have L:(l.take j)[p.toNat]?=some q:=by rw[UB,QP];exact t
     have J:ZlT ((l.set p.toNat (q+y)).take j)<=43000:=by
      rw[List.take_set,Zqj y L];rw[XF R,ZnV]at A;have:ZlT [y]=y:=by show y+0=y;omega
      omega
     have C:∀x∈(l.set p.toNat (q+y)).take j,0<=x:=λx a=>by
      rcases ZlX (List.mem_of_mem_take a)with rfl|a
      ·omega
      ·exact(H x a).1
     have M:q+y<=43000:=by
      have B:q+y∈(l.set p.toNat (q+y)).take j:=by
       refine Ud (i:=p.toNat) ?_;rw[UB,QP,UF (by omega)]
      have:=(Zqi C).2 _ B;omega
     left;refine⟨_,rfl,⟨⟨j-1,by rw[Zhm],by omega,?_⟩,by simp[g],λx a=>?_⟩,?_⟩
     ·simp only
      rw[show j-1+1=j by omega];exact J
     ·rcases ZlX a with rfl|a
      ·exact⟨by omega,M⟩
      ·exact H x a
     ·show(Wq ((j:Int)-1)).toNat<((j:Int)).toNat
      rw[Zhm];omega
    ·rw[Ue S]
     right;exact ⟨_,rfl,_,rfl,g,H⟩)
  obtain⟨r,Y,E,rfl,Z⟩:=this;exact⟨E,Y,Z⟩
variable {a A:Int}
theorem Zim {b B:Int} (d:0<=a) (f:a<=A) (g:0<=b) (i:b<=B):0<=a*b/\a*b<=A*B :=
 ⟨Int.mul_nonneg d g,Int.mul_le_mul f i g (by omega)⟩
theorem ZnZ {p M:Int} (d:-M<=y) (f:y<=M) (g:0<=p:=by omega):-(M*p)<=y*p/\y*p<=M*p:=by
 have a:=Kq d g;have b:=Kq f g;rw[Int.neg_mul]at a;exact⟨a,b⟩
def dlF (w:ZC) (ld:List Int):Nat->List Int
 |0=>[0]
 |m+1=>dlF w ld m++[((dlF w ld m)[(((K5 w)[m+1]?).getD 0).toNat]?).getD 0+(((GC w)[m+1]?).getD 0)*((ld[m+1]?).getD 0)]
theorem ZjV (w:ZC) (ld:List Int):∀m,(dlF w ld m).length=m+1
 |0=>rfl
 |m+1=>by show(dlF w ld m++[_]).length=_;rw[Uh,ZjV w ld m];rfl
theorem ZsC {o H:Int} (h:∀x∈l,o<=x/\x<=H) (d:o<=0) (f:0<=H) (i:Nat):o<=(l[i]?).getD 0/\(l[i]?).getD 0<=H:=by
 cases e:l[i]? with
 |none=>exact⟨d,f⟩
 |some x=>exact h x (Ud e)
theorem Zv5 {w:ZC} {ld:List Int} (F:∀x∈GC w,0<=x/\x<=1000) (q:∀x∈ld,0<=x/\x<=43000):∀m,∀x∈dlF w ld m,0<=x/\x<=(m:Int)*43000000
 |0,x,l=>by
  have:x=0:=by simpa[dlF]using l
  subst this;omega
 |m+1,x,l=>by
  have R:=Zv5 F q m;rcases Uu.1 (show x∈dlF w ld m++[_]from l)with l|l
  ·have:=R x l;omega
  ·rw[Ut.1 l]
   have a:=ZsC R (by omega) (by omega) (((K5 w)[m+1]?).getD 0).toNat;have b:=ZsC F (by omega) (by omega) (m+1);have c:=ZsC q (by omega) (by omega) (m+1);have d:=Zim b.1 b.2 c.1 c.2;omega
structure Zsj (b:Zc) (k:Nat) (w:ZC) (ld:List Int):Prop where
 wire:(Gl b)[k]?=some w
 n1:1<=(K5 w).length
 n8:(K5 w).length<=8
 nr:(GC w).length=(K5 w).length
 nl:ld.length=(K5 w).length
 par:∀(m:Nat),m+1<(K5 w).length->∃p,(K5 w)[m+1]?=some p/\0<=p/\p<=(m:Int)
 res:∀x∈GC w,0<=x/\x<=1000
 lds:∀x∈ld,0<=x/\x<=43000
 snk:∀x∈Gv w,0<=x/\x<=((K5 w).length:Int)-1
 few:(Gv w).length<=1048576
 prog:YE b (k:Int)=some ld
 ref:ZcC b (k:Int)=some ld
theorem ZE5 (h:Xh b) (c:(Gl b)[k]?=some w):∃ld,Zsj b k w ld:=by
 have F:=h.ok.2.2 k w c;obtain⟨⟨Z,Q⟩,lr,S,ls,r,O,N,n⟩:=F;obtain⟨nl,l,H,d⟩:=ZrE h c;have T:=ZK (ZrZ (Zg1 (Zkc h.sm).2.2 c)).2.2.2;refine⟨nl,c,Z,Q,lr,H,λm R=>?_,O,d,n,by omega,l,by rw[ZuN h c,l]⟩;have g:(K5 w)[m+1]?=some ((K5 w)[m+1]'R):=Ua _;have:=(r (m+1) _ g).2 (by omega);exact⟨_,g,this.1,by omega⟩
def ndl (w:ZC) (ld:List Int):List Int:=dlF w ld ((K5 w).length-1)
variable {ld:List Int}
theorem Zsj.len (h:Zsj b k w ld):(ndl w ld).length=(K5 w).length:=by
 have:=h.n1;unfold ndl;rw[ZjV];omega
theorem Zsj.bd (h:Zsj b k w ld):∀x∈ndl w ld,0<=x/\x<=301000000:=λx l=>by
 have:=Zv5 h.res h.lds _ x l;have:=h.n1;have:=h.n8;omega
theorem Zsj.step (h:Zsj b k w ld) (R:m+1<(K5 w).length) :
  ∃p r l q,(K5 w)[m+1]?=some p/\(GC w)[m+1]?=some r/\ld[m+1]?=some l/\0<=p/\p<=(m:Int)/\(dlF w ld m)[p.toNat]?=some q/\Wq (q+Wq (r*l))=q+r*l/\dlF w ld (m+1)=dlF w ld m++[q+r*l]:=by
 obtain⟨p,g,p0,p1⟩:=h.par m R;have F:(GC w)[m+1]?=some ((GC w)[m+1]'(by have:=h.nr;omega)):=Ua _;have H:ld[m+1]?=some (ld[m+1]'(by have:=h.nl;omega)):=Ua _;have a:(dlF w ld m)[p.toNat]?=some ((dlF w ld m)[p.toNat]'(by rw[ZjV];omega)):=Ua _;have N:=h.res _ (Ud F);have P:=h.lds _ (Ud H);have Q:=Zv5 h.res h.lds m _ (Ud a);generalize (GC w)[m+1]'(by have:=h.nr;omega)=r at *;generalize ld[m+1]'(by have:=h.nl;omega)=l at *;generalize (dlF w ld m)[p.toNat]'(by rw[ZjV];omega)=q at *;have T:=Zim N.1 N.2 P.1 P.2;have:=h.n8;refine⟨p,r,l,q,g,F,H,p0,p1,a,by rw[QR (n:=r*l),QR],?_⟩;show dlF w ld m++[_]=_;rw[g,F,H];simp only[UQ];rw[a];rfl
theorem Zon (h:Zsj b k w ld):Zc2 b (k:Int)=some (ndl w ld):=by
 have X:=h.nl;have d:=h.n1;have H:=h.n8;unfold Zc2;rw[Zv,h.wire,Bq,h.ref,Bq];refine YC ((K5 w).length-1) (λm v=>v=(dlF w ld m,((m+1:Nat):Int),())) _ rfl ?_ ?_
 ·rintro m _ R rfl
  obtain⟨p,r,l,q,e1,f,i,p0,p1,E,g,a⟩:=h.step (m:=m) (by omega);have e:atI (dlF w ld m) p=some q:=Qt p0 E;simp only[ZcO,show((m+1:Nat):Int)<(ld.length:Int)from by omega,Uk,Zv,e1,f,i,e,Bq,g];rw[Zk (by rw[ZjV];simp only[Uf,Ug];omega),Xd];exact .inl ⟨_,rfl,by rw[a]⟩
 ·rintro _ rfl
  simp only[ZcO,show ¬(((K5 w).length-1+1:Nat):Int)<(ld.length:Int)from by omega,Uj];rfl
theorem ZsF (h:Zsj b k w ld):Qx b (k:Int)=some (ndl w ld):=by
 have X:=h.nl;have d:=h.n1;have H:=h.n8;unfold Qx;rw[Zv,h.wire,Bq,h.prog,Bq,Ra,Ra,Ra,Ra];refine YC ((K5 w).length-1) (λm v=>v=(((m+1:Nat):Int),dlF w ld m++List.replicate ((K5 w).length-1-m) (0:Int),())) _ ?_ ?_ ?_
 ·rw[UG,X]
  simp only[Prod.mk.injEq,and_true];refine⟨rfl,?_⟩;show List.replicate (K5 w).length (0:Int)=[0]++List.replicate ((K5 w).length-1-0) 0;rw[show(K5 w).length=((K5 w).length-1)+1 by omega,Ks];simp
 ·rintro m _ j rfl
  obtain⟨p,r,l,q,e1,f,i,p0,p1,E,g,a⟩:=h.step (m:=m) (by omega);have n:=ZjV w ld m;have e:atI (dlF w ld m++List.replicate ((K5 w).length-1-m) (0:Int)) p=some q:=Qt p0 (by rw[Uy (by omega)];exact E);have c:(dlF w ld m++List.replicate ((K5 w).length-1-m) (0:Int))[m+1]?=some 0:=by
   rw[UY (by omega),n,Kc,QP]
  have R:(dlF w ld m++List.replicate ((K5 w).length-1-m) (0:Int)).length=(K5 w).length:=by
   rw[Uh,UT];omega
  simp only[XM,R,show((m+1:Nat):Int)<((K5 w).length:Int)from by omega,Uk,Zv,e1,f,i,e,c,Bq,g];rw[Xd];refine .inl ⟨_,rfl,?_⟩;simp only[Prod.mk.injEq,and_true,true_and,UG];rw[a,List.set_append_right _ _ (by omega),n,show(K5 w).length-1-m=((K5 w).length-1-(m+1))+1 by omega,Ks,Nat.sub_self,List.set_cons_zero,Un];rfl
 ·rintro _ rfl
  have R:(dlF w ld ((K5 w).length-1)++List.replicate ((K5 w).length-1-((K5 w).length-1)) (0:Int)).length=(K5 w).length:=by
   rw[Uh,UT,ZjV];omega
  simp only[XM,R,show ¬(((K5 w).length-1+1:Nat):Int)<((K5 w).length:Int)from by omega,Uj];rw[Nat.sub_self,List.replicate_zero,Um];rfl
theorem Zzw {l:List Int} (h:Inc l) {i:Nat} {x:Int} (a:l[i]?=some x):∀(m:Nat) (y:Int),l[i+m+1]?=some y->x<y
 |0,y,H=>h i x y a H
 |m+1,y,H=>by
  have q:=(Ub.1 H).1;have T:l[i+m+1]?=some (l[i+m+1]'(by omega)):=Ua _;have d:=Zzw h a m _ T;have f:=h (i+m+1) _ y T H;omega
theorem ZlO (h:Inc l) {i:Nat} (W:i<j) (H:l[i]?=some x) (a:l[j]?=some y):x<y :=
 Zzw h H (j-i-1) y (by grind)
def On (l:List Int) (x:Int) (j:Nat):Prop:=l[j]?=some x
def Btw (l:List Int) (x:Int) (j:Nat) (y z:Int):Prop:=l[j]?=some y/\l[j+1]?=some z/\y<x/\x<z
variable {c:Int}
theorem ZCu (b:l[0]?=some a) (d:l[l.length-1]?=some c) (h:a<=x) (H:x<=c):(∃j,On l x j)\/∃j y z,Btw l x j y z:=by
 have key:∀(k:Nat) (y:Int),l[k]?=some y->y<=x\/((∃j,On l x j)\/∃j y z,Btw l x j y z):=by
  intro k;induction k with
  |zero =>
   grind
  |succ k I =>
   intro y i;have f:=(Ub.1 i).1;have T:l[k]?=some (l[k]'(by omega)):=Ua _;rcases I _ T with q|q
   ·by_cases w:y<=x
    ·exact .inl w
    ·right
     by_cases e:l[k]'(by omega)=x
     ·exact .inl ⟨k,by unfold On;rw[T,e]⟩
     ·exact .inr ⟨k,_,y,T,i,by omega,by omega⟩
   ·exact .inr q
 rcases key _ c d with q|q
 ·exact .inl ⟨l.length-1,by unfold On;grind⟩
 ·exact q
structure Fst (l:List Int) (x:Int) (p:Nat):Prop where
 le:p<=l.length
 low:∀(i:Nat) (y:Int),i<p->l[i]?=some y->y<x
 up:∀(i:Nat) (y:Int),p<=i->l[i]?=some y->x<=y
theorem Fst.on {p:Nat} (h:Fst l x p) (i:Inc l) (b:On l x j):p=j:=by
 have X:=(Ub.1 b).1;rcases Nat.lt_trichotomy p j with q|q|q
 ·have g:l[p]?=some (l[p]'(by omega)):=Ua _
  have d:=ZlO i q g b;have f:=h.up p _ (UE _) g;omega
 ·exact q
 ·have:=h.low j x q b
  omega
theorem Fst.btw {p:Nat} {z:Int} (h:Fst l x p) (H:Inc l) (b:Btw l x j y z):p=j+1:=by
 obtain⟨d,f,g,i⟩:=b;have X:=(Ub.1 f).1;rcases Nat.lt_trichotomy p (j+1)with q|q|q
 ·have:=h.up j y (by omega) d
  omega
 ·exact q
 ·have:=h.low (j+1) z q f
  omega
theorem Zx4 (g:Inc l) {step:Int×Int×Unit->Option ((Int×Int×Unit)⊕ρ)} {good:Nat->ρ}
  (m:∀(i j:Nat) (y:Int),i<j->j<=l.length->l[(i+j)/2]?=some y->step ((i:Int),(j:Int),())=some (.inl (if y<x then(((i+j)/2+1:Nat):Int)else(i:Int),if y<x then(j:Int)else(((i+j)/2:Nat):Int),())))
  (n:∀i:Nat,i<=l.length->step ((i:Int),(i:Int),())=some (.inr (good i))):∃p,Fst l x p/\Zt step ((0:Int),(l.length:Int),())=some (good p):=by
 obtain⟨r,e,p,rfl,o⟩:=Ze5 (step:=step) (v:=((0:Int),(l.length:Int),())) (λv=>∃i j:Nat,v=((i:Int),(j:Int),())/\i<=j/\j<=l.length/\(∀(k:Nat) (y:Int),k<i->l[k]?=some y->y<x)/\∀(k:Nat) (y:Int),j<=k->l[k]?=some y->x<=y) (λv=>(v.2.1-v.1).toNat) (λr=>∃p,r=good p/\Fst l x p)
  ⟨0,l.length,rfl,by omega,UE _,λk y f=>by omega,λk y f a=>by grind⟩ (by
   rintro _ ⟨i,j,rfl,W,b,h,H⟩;by_cases c:i<j
   ·left
    have a:l[(i+j)/2]?=some (l[(i+j)/2]'(by omega)):=Ua _;generalize l[(i+j)/2]'(by omega)=y at a;refine⟨_,m i j y c b a,?_,?_⟩
    ·by_cases d:y<x
     ·refine⟨(i+j)/2+1,j,by grind,by omega,b,λk z f T=>?_,H⟩
      by_cases w:k=(i+j)/2
      ·grind
      ·have:=ZlO g (by omega) T a;omega
     ·refine⟨i,(i+j)/2,by grind,by omega,by omega,h,λk z f T=>?_⟩
      by_cases w:k=(i+j)/2
      ·grind
      ·have:=ZlO g (by omega) a T;omega
    ·by_cases d:y<x
     ·rw[Uc d,Uc d];simp only;omega
     ·rw[Ue d,Ue d];simp only;omega
   ·right
    have:i=j:=by omega
    subst this;exact ⟨_,n i b,i,rfl,b,h,H⟩)
 exact⟨p,o,e⟩
structure ZC3 (l:List Int) (j a b:Int):Prop where
 j0:0<=j
 jl:j<l.length
 jb:0<b->j+1<l.length
 a0:0<a
 b0:0<=b
 ab:a+b<=100000
def wl (j a b:Int):List Zbo:=if b=0 then[(j,a,())]else[(j,a,()),(j+1,b,())]
theorem ZAf {i:Nat} (h:i+j<=100):Wq (Int.fdiv (IntKind.wrap IntKind.u64 (Wq ((i:Int)+(j:Int)))) ((2:Int)^Min.min (Int.toNat (1:Int)) (IntKind.bits IntKind.u64)))=(((i+j)/2:Nat):Int):=by
 rw[QR (n:=(i:Int)+(j:Int)),show IntKind.wrap IntKind.u64 ((i:Int)+(j:Int))=(i:Int)+(j:Int)from IntWalk.u64_in _ (by omega),show((2:Int)^Min.min (Int.toNat (1:Int)) (IntKind.bits IntKind.u64))=2 from by decide,Int.fdiv_eq_ediv_of_nonneg _ (by omega),QR];omega
variable (x:Int)
theorem ZAq (y:Int):Ze7 x y=some (decide (x<y)):=by
 unfold Ze7 ZdU;rw[Bq,UJ (show x=x from rfl)];rfl
theorem ZCi:JX x=some false:=by
 unfold JX;rw[UJ (show x=x from rfl)];rfl
theorem Zxj (H:Inc l) (q:l.length<=4) (x:Int):∃p,Fst l x p/\XK l x=some ((p:Int),decide (l[p]?=some x)):=by
 unfold XK;refine Zx4 (x:=x) (good:=λp=>((p:Int),decide (l[p]?=some x))) H (λi j y W b h=>?_) (λi H=>?_)
 ·simp only[X5,show(i:Int)<(j:Int)from by omega,Uk,ZAf (show i+j<=100 by omega),Zv,h,Bq,ZAq,Ul,Xd (show(i+j)/2<=1048576 by omega)]
  by_cases c:y<x
  ·rw[Uc c,Uc c,Uc c]
  ·rw[Ue c,Ue c,Ue c]
 ·simp only[X5,Ui,Uj]
  by_cases c:i<l.length
  ·have h:l[i]?=some l[i]:=Ua c
   generalize l[i]=y at h;rw[Uc (show(i:Int)<(l.length:Int) by omega),Zv,h,Bq];by_cases e:y=x
   ·rw[Uc e,UJ (by rw[e])]
   ·rw[Ue e,ZCi,Bq,Ue (by simp),decide_eq_false (by rw[Option.some.injEq];exact e)]
  ·rw[Ue (show ¬(i:Int)<(l.length:Int) by omega),Uv (by omega)]
   rfl
theorem ZpJ (h:ZfL l) (x:Int):∃j a b,ZC3 l j a b/\Zce l x=some (j,a,b)/\Zfn l x=some (wl j a b,a+b):=by
 obtain⟨Z,S,B,m⟩:=h;have k:l[0]?=some (l[0]'(by omega)):=Ua _;have H:l[l.length-1]?=some (l[l.length-1]'(by omega)):=Ua _;generalize l[0]'(by omega)=X at k;generalize l[l.length-1]'(by omega)=d at H;have P:X<=d:=by
  by_cases q:l.length=1
  ·rw[q]at H
   rw[k]at H;injection H with H
   omega
  ·have:=ZlO m (show 0<l.length-1 by omega) k H
   omega
 have bd:∀{j:Nat} {y:Int},l[j]?=some y->0<=y/\y<=100000:=λ{j y} u=>B y (Ud u);have U:=bd k;have V:=bd H;have a0:atI l 0=some X:=Qt (U7 _) k;have M:atI l (Wq ((↑(List.length l):Int)-(1:Int)))=some d:=by
  rw[QR];exact Qt (by omega) (by rw[<-H];congr 1;omega)
 unfold Zce Zfn;simp only[a0,M,Bq];have s:X<=Min.min (Max.max x X) d:=by omega
 have t:Min.min (Max.max x X) d<=d:=by omega
 have L:∀(i:Int),J2 l x X d i=if(0:Int)<=i then
   (atI l i).bind λG =>
   if Min.min (Max.max x X) d=G then
    some (.inr (i,(1:Int),(0:Int)))
   else
    if G<Min.min (Max.max x X) d then
     (atI l (Wq (i+(1:Int)))).bind λT =>
     some (.inr (i,Wq (T-Min.min (Max.max x X) d),Wq (Min.min (Max.max x X) d-G)))
    else
     some (.inl (Wq (i-(1:Int)),()))
  else
   some (.inr ((0:Int),(1:Int),(0:Int))):=λi=>rfl
 generalize Min.min (Max.max x X) d=c at s t L ⊢;obtain⟨p,K,R⟩:=Zxj m S c;rw[R,Bq];rcases ZCu k H s t with⟨j,e⟩|⟨j,y,z,e⟩
 ·have C:=(Ub.1 e).1
  have g:=K.on m e;subst g;refine⟨(p:Int),1,0,⟨by omega,by omega,λq=>by omega,by omega,by omega,by omega⟩,?_,?_⟩
  ·have key:∀(r:Nat),p+r<l.length->Zt (λv=>J2 l x X d v.1) (((p+r:Nat):Int),())=some ((p:Int),(1:Int),(0:Int)):=by
    intro r;induction r with
    |zero =>
     intro F;refine YF ?_;simp only[L,Kt,show(0:Int)<=(p:Int)from by omega,Uk,Zv];rw[e,Bq,Uc rfl]
    |succ r I =>
     intro F;have u:l[p+(r+1)]?=some (l[p+(r+1)]'F):=Ua _;generalize l[p+(r+1)]'F=y at u;have D:=ZlO m (show p<p+(r+1) by omega) e u;refine(YW ?_).trans (I (by omega));simp only[L,show(0:Int)<=((p+(r+1):Nat):Int)from by omega,Uk,Zv,u,Bq];rw[QQ,QQ,QR,show((p+(r+1):Nat):Int)-1=((p+r:Nat):Int) by omega]
   have:=key (l.length-1-p) (by omega);rw[show p+(l.length-1-p)=l.length-1 by omega]at this;rw[QR,show(l.length:Int)-1=((l.length-1:Nat):Int) by omega];exact this
  ·rw[Uc (UJ (show l[p]?=some c from e))]
   rfl
 ·obtain⟨A,f,J,Q⟩:=e
  have C:=(Ub.1 f).1;have g:=K.btw m ⟨A,f,J,Q⟩;subst g;have N:=bd A;have O:=bd f;have E:¬l[j+1]?=some c:=λq=>by rw[f]at q;injection q with q;omega
  refine⟨(j:Int),z-c,c-y,⟨by omega,by omega,λq=>by omega,by omega,by omega,by omega⟩,?_,?_⟩
  ·have key:∀(r:Nat),j+r<l.length->Zt (λv=>J2 l x X d v.1) (((j+r:Nat):Int),())=some ((j:Int),z-c,c-y):=by
    intro r;induction r with
    |zero =>
     intro F;refine YF ?_;simp only[L,Kt,show(0:Int)<=(j:Int)from by omega,Uk,Zv];rw[A,Bq,QQ,Uc J,Xd (show j<=1048576 by omega),Zv,f,Bq,QR,QR]
    |succ r I =>
     intro F;have o:l[j+(r+1)]?=some (l[j+(r+1)]'F):=Ua _;generalize l[j+(r+1)]'F=w at o;have D:z<=w:=by
      by_cases q:r=0
      ·subst q;rw[f]at o;injection o with o;omega
      ·have:=ZlO m (show j+1<j+(r+1) by omega) f o;omega
     refine(YW ?_).trans (I (by omega));simp only[L,show(0:Int)<=((j+(r+1):Nat):Int)from by omega,Uk,Zv,o,Bq];rw[QQ,QQ,QR,show((j+(r+1):Nat):Int)-1=((j+r:Nat):Int) by omega]
   have:=key (l.length-1-j) (by omega);rw[show j+(l.length-1-j)=l.length-1 by omega]at this;rw[QR,show(l.length:Int)-1=((l.length-1:Nat):Int) by omega];exact this
  ·rw[Ue (by rw[Ul];exact E),Zv,f,Bq,QR (n:=((j+1:Nat):Int)-1),show((j+1:Nat):Int)-1=(j:Int) by omega,Zv,A,Bq,QR,QR,QR]
   unfold wl;rw[QQ];simp only[Option.some.injEq,Prod.mk.injEq];refine⟨?_,by omega⟩;rw[show((j+1:Nat):Int)=(j:Int)+1 by omega]
theorem ZhK (a b m:Int):ZbZ a b m=Y3 a b m:=by
 unfold ZbZ Y3;by_cases h:b≠0
 ·rw[Zk h,Zk h]
  by_cases d:Int.tmod a b<0
  ·have f:¬(0:Int)<Int.tmod a b:=by omega
   by_cases M:m=0
   ·subst M;simp only[d,Uk]
   ·by_cases c:m=1
    ·subst c;simp[d,f]
    ·simp only[d,f,M,c,Uk,Uj]
  ·by_cases f:(0:Int)<Int.tmod a b
   ·by_cases M:m=0
    ·subst M;simp[d,f]
    ·by_cases c:m=1
     ·subst c;simp[d,f]
     ·simp only[d,f,M,c,Uk,Uj]
   ·by_cases M:m=0
    ·subst M;simp[d,f]
    ·by_cases c:m=1
     ·subst c;simp[d,f]
     ·simp only[d,f,M,c,Uk,Uj]
 ·simp only[Zw,Ue h]
theorem Zp3 {b m:Int} (H:0<b) (j:-4000000000000000000<=a) (i:a<=4000000000000000000) (R:m=0\/m=1):∃r,Y3 a b m=some r/\∀M:Int,0<=M->M*b<=4000000000000000000->(a<=M*b->r<=M)/\(-(M*b)<=a->-M<=r)/\(0<=a->0<=r):=by
 have e:=Int.mul_tdiv_add_tmod a b;have l:=KC a H;have p:=Int.lt_tmod_of_pos a H;have up:∀M:Int,a<=M*b->Int.tdiv a b<=M/\(0<Int.tmod a b->Int.tdiv a b+1<=M):=λM h=>by
  constructor
  ·refine Uz λq=>?_
   have:=KF (show M+1<=Int.tdiv a b by omega) (show 0<=b by omega);rw[Int.mul_add,Int.mul_one,Int.mul_comm b M]at this;omega
  ·intro f
   refine Uz λq=>?_;have:=KF (show M<=Int.tdiv a b by omega) (show 0<=b by omega);rw[Int.mul_comm b M]at this;omega
 have o:∀M:Int,-(M*b)<=a->-M<=Int.tdiv a b/\(Int.tmod a b<0->-M<=Int.tdiv a b-1):=λM h=>by
  constructor
  ·refine Uz λq=>?_
   have:=KF (show Int.tdiv a b<=-(M+1) by omega) (show 0<=b by omega);rw[Int.mul_neg,Int.mul_add,Int.mul_one,Int.mul_comm b M]at this;omega
  ·intro f
   refine Uz λq=>?_;have:=KF (show Int.tdiv a b<=-M by omega) (show 0<=b by omega);rw[Int.mul_neg,Int.mul_comm b M]at this;omega
 have B:Int.tdiv a b<=4000000000000000000/\-4000000000000000000<=Int.tdiv a b:=by
  have d:(4000000000000000000:Int)<=4000000000000000000*b:=by omega
  have:=up 4000000000000000000 (by omega);have:=o 4000000000000000000 (by omega);omega
 have N:0<=a->0<=Int.tdiv a b/\¬Int.tmod a b<0:=λh=>by
  have:=KW b h;have:=Int.tdiv_nonneg h (show 0<=b by omega);omega
 unfold Y3;rw[Ra,QR (n:=Int.tdiv a b)];by_cases d:Int.tmod a b<0
 ·rw[Uc d]
  by_cases g:m=0
  ·rw[Uc g,QR]
   refine⟨_,rfl,λM k F=>⟨λh=>?_,λh=>?_,λh=>absurd d (N h).2⟩⟩
   ·have:=(up M h).1;omega
   ·exact(o M h).2 d
  ·rw[Ue g,Ue (show ¬(0:Int)<Int.tmod a b by omega)]
   exact⟨_,rfl,λM k F=>⟨λh=>(up M h).1,λh=>(o M h).1,λh=>(N h).1⟩⟩
 ·rw[Ue d]
  by_cases f:(0:Int)<Int.tmod a b
  ·rw[Uc f]
   by_cases c:m=1
   ·rw[Uc c,QR]
    refine⟨_,rfl,λM k F=>⟨λh=>(up M h).2 f,λh=>?_,λh=>?_⟩⟩
    ·have:=(o M h).1;omega
    ·have:=(N h).1;omega
   ·rw[Ue c]
    exact⟨_,rfl,λM k F=>⟨λh=>(up M h).1,λh=>(o M h).1,λh=>(N h).1⟩⟩
  ·rw[Ue f]
   exact⟨_,rfl,λM k F=>⟨λh=>(up M h).1,λh=>(o M h).1,λh=>(N h).1⟩⟩
def ZmB (t:ZH) (i k:Int):Int:=(atI (Gr t) (i*((Gq t).length:Int)+k)).getD 0
def tm (t:ZH) (i k a c:Int):Int:=if 0<a*c then ZmB t i k*(a*c)else 0
variable {k:Int}
theorem ZqQ (h:Jk t) (j:0<=i) (i1:i<(GT t).length) (k0:0<=k) (k1:k<(Gq t).length) :
  atI (Gr t) (i*((Gq t).length:Int)+k)=some (ZmB t i k)/\(-1000000<=ZmB t i k/\ZmB t i k<=1000000)/\0<=i*((Gq t).length:Int)/\i*((Gq t).length:Int)<=16:=by
 obtain⟨d,f,g,c⟩:=h;have b:=Zim j (show i<=4 by have:=d.2.1;omega) (show(0:Int)<=((Gq t).length:Int) by omega) (show((Gq t).length:Int)<=4 by have:=f.2.1;omega);have H:i*((Gq t).length:Int)+k<(Gr t).length:=by
  have e:=Kq (show i+1<=((GT t).length:Int) by omega) (show(0:Int)<=((Gq t).length:Int) by omega);rw[Int.add_mul,Int.one_mul]at e;rw[g,Int.natCast_mul];omega
 obtain⟨x,a,I⟩:=Zjv (l:=Gr t) (i:=i*((Gq t).length:Int)+k) (by omega) H;have R:=c x (Ud I);have e:ZmB t i k=x:=by unfold ZmB;rw[a];rfl
 rw[e];exact⟨a,R,by omega,by omega⟩
theorem Zs9 (h:Jk t) (l:0<a->0<=i/\i<(GT t).length) (b:0<c->0<=k/\k<(Gq t).length) (a0:0<=a:=by omega) (c0:0<=c:=by omega):-(1000000*(a*c))<=tm t i k a c/\tm t i k a c<=1000000*(a*c):=by
 unfold tm;by_cases q:0<a*c
 ·rw[Uc q]
  have n:0<a:=by
   refine Uz λz=>?_;rw[show a=0 by omega,Int.zero_mul]at q;omega
  have H:0<c:=by
   refine Uz λz=>?_;rw[show c=0 by omega,Int.mul_zero]at q;omega
  obtain⟨_,⟨N,P⟩,_⟩:=ZqQ h (l n).1 (l n).2 (b H).1 (b H).2;exact ZnZ N P
 ·rw[Ue q]
  have:=Int.mul_nonneg a0 c0;omega
theorem ZBu:tm t i k a 0=0:=by unfold tm;rw[Int.mul_zero,QQ]
theorem Zuq:tm t i k 0 c=0:=by unfold tm;rw[Int.zero_mul,QQ]
def Zvr (t:ZH) (j a b k c d:Int):Int:=tm t j k a c+tm t j (k+1) a d+(tm t (j+1) k b c+tm t (j+1) (k+1) b d)
variable {w:List Zbo×Int} {v1:Int}
theorem ZnP (h:Jk t) {v3:Int} (I:0<=i) (i1:i<(GT t).length) (A0:0<A) (A1:A<=100000) (H:atI w.1 v3=some (k,c,())) (a:v3<w.1.length) (m:v3<=10) (D:0<=v3) (k0:0<=k) (k1:k<(Gq t).length) (c0:0<c:=by omega) (c1:c<=100000:=by omega) (f:-100000000000000000<=s:=by omega) (g:s<=100000000000000000:=by omega) :
  XV t w v1 (i,A,()) s v3=some (.inl (s+tm t i k A c,v3+1,())):=by
 obtain⟨l,⟨N,P⟩,Q,T⟩:=ZqQ h I i1 k0 k1;have S:=h.2.1.2.1;have p:=Zim (show 0<=A by omega) A1 (show 0<=c by omega) c1;have b:0<A*c:=Int.mul_pos A0 c0;have q:=ZnZ N P (show 0<=A*c by omega);have d:=ZnZ N P (show 0<=A by omega);have e:tm t i k A c=ZmB t i k*(A*c):=by unfold tm;rw[Uc b]
 simp only[XV,Uc a,H,Bq];show(atI (Gr t) (Wq (Wq (i*((Gq t).length:Int))+k))).bind _=_;rw[QR (n:=i*((Gq t).length:Int)),QR (n:=i*((Gq t).length:Int)+k),l,Bq];show some (Sum.inl (Wq (s+Wq (Wq (ZmB t i k*A)*c)),Wq (v3+1),()))=_;rw[QR (n:=ZmB t i k*A),Int.mul_assoc,QR (n:=ZmB t i k*(A*c)),QR (n:=s+ZmB t i k*(A*c)),QR (n:=v3+1),e]
theorem ZtM {v3:Int} {x:Zbo} (a:v3=w.1.length):XV t w v1 x s v3=some (.inr (.inl (s,Wq (v1+1),()))):=by
 simp only[XV,Ue (show ¬v3<(w.1.length:Int) by omega)]
theorem ZtN (h:Jk t) {d:Int} (H:w.1=wl k c d) (e:ZC3 (Gq t) k c d) (I:0<=i) (i1:i<(GT t).length) (A0:0<A:=by omega) (A1:A<=100000:=by omega) (S:-50000000000000000<=s:=by omega) (m:s<=50000000000000000:=by omega) :
  Zt (λv=>XV t w v1 (i,A,()) v.1 v.2.1) (s,(0:Int),())=some (.inl (s+(tm t i k A c+tm t i (k+1) A d),Wq (v1+1),())):=by
 have j:=e.ab;have L:=e.a0;have l:=e.b0;have b:=e.j0;have X:=e.jl;have p:=Zim (show 0<=A by omega) A1 (show 0<=c by omega) (show c<=100000 by omega);have q:=Zs9 h (i:=i) (k:=k) (a:=A) (c:=c) (λ_=>⟨I,i1⟩) (λ_=>⟨b,X⟩);unfold wl at H;by_cases f:d=0
 ·rw[Uc f]at H
  subst f;refine(YW (v':=(s+tm t i k A c,(1:Int),())) ?_).trans (YF ?_)
  ·exact ZnP (s:=s) (v3:=0) h I i1 A0 A1 (by rw[H];rfl) (by rw[H];show(0:Int)<((1:Nat):Int);omega) (by omega) (by omega) b X L
  ·rw[ZBu,K2]
   exact ZtM (by rw[H];rfl)
 ·rw[Ue f]at H
  have g:=e.jb (by omega);refine(YW (v':=(s+tm t i k A c,(1:Int),())) ?_).trans ((YW (v':=(s+tm t i k A c+tm t i (k+1) A d,(2:Int),())) ?_).trans (YF ?_))
  ·exact ZnP (s:=s) (v3:=0) h I i1 A0 A1 (by rw[H];rfl) (by rw[H];show(0:Int)<((2:Nat):Int);omega) (by omega) (by omega) b X L
  ·exact ZnP (s:=s+tm t i k A c) (v3:=1) h I i1 A0 A1 (by rw[H];rfl) (by rw[H];show(1:Int)<((2:Nat):Int);omega) (by omega) (by omega) (by omega) g
  ·rw[<-Int.add_assoc]
   exact ZtM (by rw[H];rfl)
theorem Zr1 (h:Jk t) {j:Int} {v3 W1:Int} (g:v1=0\/v1=1) (l:v3=0\/v3=1) (m:0<=j) (r:0<a->j+v1<(GT t).length) (f:j<=4) (o:0<=k) (e:0<c->k+v3<(Gq t).length) (a0:0<=a) (A:a<=100000) (c0:0<=c:=by omega) (c1:c<=100000:=by omega) (u:-100000000000000000<=s:=by omega) (v:s<=100000000000000000:=by omega) :
  (if (0:Int)<Wq (a*c) then
     (atI (Gr t) (Wq (Wq (Wq (Wq (j+v1)*(↑(List.length (Gq t)):Int))+k)+v3))).bind λX =>
     some (Sum.inl (Wq (s+Wq (Wq (a*c)*X)),Wq (v3+(1:Int)),()))
    else
     some (.inl (s,Wq (v3+(1:Int)),())):Option ((Int×Int×Unit) ⊕ ((Int×Int×Unit) ⊕ Int)))=some (.inl (s+tm t (j+v1) (k+v3) a c,v3+1,())):=by
 have p:=Zim a0 A c0 c1;rw[QR (n:=a*c),QR (n:=v3+1)];by_cases b:0<a*c
 ·have d:0<a:=by
   refine Uz λz=>?_;rw[show a=0 by omega,Int.zero_mul]at b;omega
  have H:0<c:=by
   refine Uz λz=>?_;rw[show c=0 by omega,Int.mul_zero]at b;omega
  obtain⟨x,⟨N,P⟩,Q,T⟩:=ZqQ h (i:=j+v1) (k:=k+v3) (by omega) (r d) (by omega) (e H);have S:=h.2.1.2.1;have K:=e H;have q:=ZnZ N P (show 0<=a*c by omega);rw[Uc b,QR (n:=j+v1),QR (n:=(j+v1)*((Gq t).length:Int)),QR (n:=(j+v1)*((Gq t).length:Int)+k),Int.add_assoc,QR (n:=(j+v1)*((Gq t).length:Int)+(k+v3)),x,Bq];unfold tm;rw[Uc b,Int.mul_comm (a*c),QR (n:=ZmB t (j+v1) (k+v3)*(a*c)),QR]
 ·rw[Ue b]
  unfold tm;rw[Ue b,K2]
theorem Zum (h:Jk t) {j b d:Int} (H:ZC3 (GT t) j a b) (f:ZC3 (Gq t) k c d) (l:v1=0/\A=a\/v1=1/\A=b) (C:-50000000000000000<=s:=by omega) (D:s<=50000000000000000:=by omega) :
  Zt (λv=>Qk t (j,a,b) (k,c,d) v1 v.1 v.2.1) (s,(0:Int),())=some (.inl (s+(tm t (j+v1) k A c+tm t (j+v1) (k+1) A d),Wq (v1+1),())):=by
 have r:=H.ab;have u:=H.a0;have w:=H.b0;have J:=H.j0;have x:=H.jl;have n:=H.jb;have k1:=f.ab;have y:=f.a0;have Q:=f.b0;have m:=f.j0;have o:=f.jl;have K:=f.jb;have S:=h.1.2.1;have A0:0<=A/\A<=100000/\(0<A->j+v1<(GT t).length)/\0<=j+v1:=by
  rcases l with⟨rfl,rfl⟩|⟨rfl,rfl⟩
  ·exact⟨by omega,by omega,λ_=>by omega,by omega⟩
  ·exact⟨by omega,by omega,λq=>n q,by omega⟩
 obtain⟨A1,A2,A3,A4⟩:=A0;have p:=Zim A1 A2 (show 0<=c by omega) (show c<=100000 by omega);have q:=Zs9 h (i:=j+v1) (k:=k) (a:=A) (c:=c) (λz=>⟨A4,A3 z⟩) (λ_=>⟨m,o⟩) A1;have p2:=Zim A1 A2 (show 0<=d by omega) (show d<=100000 by omega);have B:=Zs9 h (i:=j+v1) (k:=k+1) (a:=A) (c:=d) (λz=>⟨A4,A3 z⟩) (λz=>⟨by omega,K z⟩) A1;have g:v1=0\/v1=1:=by omega
 refine(YW (v':=(s+tm t (j+v1) (k+0) A c,0+1,())) ?_).trans ((YW (v':=(s+tm t (j+v1) (k+0) A c+tm t (j+v1) (k+1) A d,1+1,())) ?_).trans (YF ?_))
 ·have e:=Zr1 h (v1:=v1) (v3:=0) (s:=s) (W1:=0) (a:=A) (c:=c) g (.inl rfl) J A3 (by omega) m (λ_=>by omega) A1 A2
  show Qk t (j,a,b) (k,c,d) v1 s 0=_;unfold Qk;rw[Uc (by decide)];rcases l with⟨rfl,rfl⟩|⟨rfl,rfl⟩
  ·rw[Ue (by decide),Uc rfl];exact e
  ·rw[Uc rfl,Uc rfl];exact e
 ·rw[K2]
  have e:=Zr1 h (v1:=v1) (v3:=1) (s:=s+tm t (j+v1) k A c) (W1:=0) (a:=A) (c:=d) g (.inr rfl) J A3 (by omega) m (λz=>K z) A1 A2;show Qk t (j,a,b) (k,c,d) v1 (s+tm t (j+v1) k A c) 1=_;unfold Qk;rw[Uc (by decide)];rcases l with⟨rfl,rfl⟩|⟨rfl,rfl⟩
  ·rw[Ue (by decide),Ue (by decide)];exact e
  ·rw[Uc rfl,Ue (by decide)];exact e
 ·rw[K2]
  show Qk t (j,a,b) (k,c,d) v1 (s+tm t (j+v1) k A c+tm t (j+v1) (k+1) A d) 2=_;unfold Qk;rw[Ue (by decide),Int.add_assoc]
theorem look_eq (h:Jk t) (s l:Int) {m:Int} (R:m=0\/m=1):∃r,Zay t s l m=some r/\Zcd t s l m=some r/\-1000000<=r/\r<=1000000:=by
 obtain⟨j,a,b,f,e1,E⟩:=ZpJ h.1 s;obtain⟨k,c,d,H,y,B⟩:=ZpJ h.2.1 l;have L:=f.ab;have u:=f.a0;have M:=f.b0;have o:=f.j0;have x:=f.jl;have p:=f.jb;have k1:=H.ab;have G:=H.a0;have Q:=H.b0;have K:=H.j0;have q:=H.jl;have v:=H.jb;have p1:=Zim (show 0<=a by omega) (show a<=100000 by omega) (show 0<=c by omega) (show c<=100000 by omega);have p2:=Zim (show 0<=a by omega) (show a<=100000 by omega) (show 0<=d by omega) (show d<=100000 by omega);have P:=Zim (show 0<=b by omega) (show b<=100000 by omega) (show 0<=c by omega) (show c<=100000 by omega);have N:=Zim (show 0<=b by omega) (show b<=100000 by omega) (show 0<=d by omega) (show d<=100000 by omega);have O:=Int.mul_pos u G;have S:=Zs9 h (i:=j) (k:=k) (a:=a) (c:=c) (λ_=>⟨o,x⟩) (λ_=>⟨K,q⟩);have U:=Zs9 h (i:=j) (k:=k+1) (a:=a) (c:=d) (λ_=>⟨o,x⟩) (λz=>⟨by omega,v z⟩);have V:=Zs9 h (i:=j+1) (k:=k) (a:=b) (c:=c) (λz=>⟨by omega,p z⟩) (λ_=>⟨K,q⟩);have W:=Zs9 h (i:=j+1) (k:=k+1) (a:=b) (c:=d) (λz=>⟨by omega,p z⟩) (λz=>⟨by omega,v z⟩);have I:(a+b)*(c+d)=a*c+a*d+(b*c+b*d):=by rw[Int.add_mul,Int.mul_add,Int.mul_add]
 obtain⟨r,F,C⟩:=Zp3 (a:=Zvr t j a b k c d) (b:=(a+b)*(c+d)) (m:=m) (by omega) (by unfold Zvr;omega) (by unfold Zvr;omega) R;have g:=C 1000000 (by omega) (by omega);refine⟨r,?_,?_,g.2.1 (by unfold Zvr;omega),g.1 (by unfold Zvr;omega)⟩
 ·have J:∀v1:Int,v1=(wl j a b).length->YH t m (wl j a b,a+b) (wl k c d,c+d) (Zvr t j a b k c d) v1=some (.inr r):=λv1 D=>by
   simp only[YH,D,Ui,Uj];rw[QR (n:=(a+b)*(c+d)),ZhK,F,Bq]
  unfold Zay;rw[E,B,Bq,Bq];have r1:=ZtN h (w:=(wl k c d,c+d)) (v1:=0) (i:=j) (A:=a) (s:=0) rfl H o x u;by_cases T:b=0
  ·have e:wl j a b=[(j,a,())]:=by unfold wl;rw[Uc T]
   refine(YW (v':=(Zvr t j a b k c d,(1:Int),())) ?_).trans (YF (J 1 (by rw[e];rfl)));show YH t m (wl j a b,a+b) (wl k c d,c+d) 0 0=_;unfold YH;rw[Uc (by rw[e];show(0:Int)<((1:Nat):Int);omega),show atI (wl j a b,a+b).fst (0:Int)=some (j,a,()) by rw[e];rfl,Bq];refine r1.trans ?_;unfold Zvr;rw[T,Zuq,Zuq,K2,K2,Int.zero_add];rfl
  ·have e:wl j a b=[(j,a,()),(j+1,b,())]:=by unfold wl;rw[Ue T]
   have r2:=ZtN h (w:=(wl k c d,c+d)) (v1:=1) (i:=j+1) (A:=b) (s:=tm t j k a c+tm t j (k+1) a d) rfl H (by omega) (p (by omega));refine(YW (v':=(tm t j k a c+tm t j (k+1) a d,(1:Int),())) ?_).trans ((YW (v':=(Zvr t j a b k c d,(2:Int),())) ?_).trans (YF (J 2 (by rw[e];rfl))))
   ·show YH t m (wl j a b,a+b) (wl k c d,c+d) 0 0=_
    unfold YH;rw[Uc (by rw[e];show(0:Int)<((2:Nat):Int);omega),show atI (wl j a b,a+b).fst (0:Int)=some (j,a,()) by rw[e];rfl,Bq];refine r1.trans ?_;rw[Int.zero_add];rfl
   ·show YH t m (wl j a b,a+b) (wl k c d,c+d) (tm t j k a c+tm t j (k+1) a d) 1=_
    unfold YH;rw[Uc (by rw[e];show(1:Int)<((2:Nat):Int);omega),show atI (wl j a b,a+b).fst (1:Int)=some (j+1,b,()) by rw[e];rfl,Bq];exact r2
 ·unfold Zcd
  rw[e1,y,Bq,Bq];have r1:=Zum h f H (v1:=0) (s:=0) (A:=a) (.inl ⟨rfl,rfl⟩);have r2:=Zum h f H (v1:=1) (s:=tm t j k a c+tm t j (k+1) a d) (A:=b) (.inr ⟨rfl,rfl⟩);refine(YW (v':=(tm t j k a c+tm t j (k+1) a d,(1:Int),())) ?_).trans ((YW (v':=(Zvr t j a b k c d,(2:Int),())) ?_).trans (YF ?_))
  ·show QY t m (j,a,b) (k,c,d) 0 0=_
   unfold QY;rw[Uc (by decide)];refine r1.trans ?_;rw[K2,Int.zero_add];rfl
  ·show QY t m (j,a,b) (k,c,d) (tm t j k a c+tm t j (k+1) a d) 1=_
   unfold QY;rw[Uc (by decide)];exact r2
  ·show QY t m (j,a,b) (k,c,d) (Zvr t j a b k c d) 2=_
   unfold QY;rw[Ue (by decide)];show(Y3 (Zvr t j a b k c d) (Wq (Wq (a+b)*Wq (c+d))) m).bind _=_;rw[QR (n:=a+b),QR (n:=c+d),QR (n:=(a+b)*(c+d)),F];rfl
def sdl (w:ZC) (ld:List Int) (y:Int):Int:=(atI (ndl w ld) y).getD 0
variable {k:Nat} {w:ZC}
theorem Zsj.sink (h:Zsj b k w ld) (i:y∈Gv w):atI (ndl w ld) y=some (sdl w ld y)/\0<=sdl w ld y/\sdl w ld y<=301000000:=by
 have q:=h.snk y i;obtain⟨x,d,f⟩:=Zfk (l:=ndl w ld) q.1 (by rw[h.len];omega);have H:=h.bd x f;have e:sdl w ld y=x:=by unfold sdl;rw[d];rfl
 grind
theorem ZoI (h:Zsj b k w ld):XC b (k:Int)=some ((Gv w).map (sdl w ld)):=by
 unfold XC;rw[ZsF h,Bq,Zv,h.wire,Bq];have f:=h.few;refine ZtY (l:=Gv w) (by unfold Len;omega) (λo i=>(o,i,())) (g:=sdl w ld) (s0:=[]) (λm y H s a=>?_) ?_
 ·have R:=(Ub.1 H).1
  have q:s.length<=1048576:=by grind
  simp only[XE,show(m:Int)<((Gv w).length:Int)from by omega,Uk,Zv,H,(h.sink (Ud H)).1,Bq];rw[Zk (by grind)]
 ·simp only[XE,Ui,Uj,Uq]
theorem ZqD (h:Zsj b k w ld) {e:Int} (R:e=0\/e=1):∃f:Int->Int,(∀y∈Gv w,Y3 (sdl w ld y) 1000 e=some (f y)/\0<=f y/\f y<=301000)/\ZbC b (k:Int) e=some ((Gv w).map f):=by
 have d:=h.few;have key:∀y∈Gv w,Y3 (sdl w ld y) 1000 e=some ((Y3 (sdl w ld y) 1000 e).getD 0)/\0<=(Y3 (sdl w ld y) 1000 e).getD 0/\(Y3 (sdl w ld y) 1000 e).getD 0<=301000:=λy H=>by
  have q:=(h.sink H).2;obtain⟨r,F,c⟩:=Zp3 (a:=sdl w ld y) (b:=1000) (m:=e) (by omega) (by omega) (by omega) R;have:=c 301000 (by omega) (by omega);grind
 refine⟨λy=>(Y3 (sdl w ld y) 1000 e).getD 0,key,?_⟩;unfold ZbC;rw[Zon h,Bq];refine ZtY (l:=Gv w) (by unfold Len;omega) (λo i=>(o,i,())) (g:=λy=>(Y3 (sdl w ld y) 1000 e).getD 0) (s0:=[]) (λm y H s q=>?_) ?_
 ·have R:=(Ub.1 H).1
  have j:s.length<=1048576:=by grind
  simp only[ZaD,Zv,h.wire,show(m:Int)<((Gv w).length:Int)from by omega,Uk,H,(h.sink (Ud H)).1,Bq];rw[(key y (Ud H)).1,Bq,Zk (by grind)];rfl
 ·simp only[ZaD,Zv,h.wire,Bq,Ui,Uj,Uq]
variable {l:List α}
theorem Zmp {x:α} (h:l[k]?=some x) (g:p x=true) (f:∀(j:Nat) (y:α),j<k->l[j]?=some y->p y=false):ZaI p l=(k:Int):=by
 have H:=(Ub.1 h);have:l.findIdx? p=some k:=by
  rw[U9];refine⟨H.1,by rw[H.2];exact g,λj b=>?_⟩;have:=f j (l[j]'(by have:=H.1;omega)) b (Ua _);simp[this]
 unfold ZaI;rw[this]
theorem Zmd (d:Ze) (n:Int) (h:Few d):Zc1 d n=some (ZaI (λx:Pl=>decide (x.2.2.1=n)&&x.2.2.2.1) (ZB d)):=by
 have g:=YT h;unfold Zc1;rw[Y5 d h,Bq];refine Jh (out:=λi=>i) (show Len (ZB d) by show List.length _<=_;omega) (λk x l=>?_) ?_
 ·have H:=(Ub.1 l).1
  simp only[ZcK,show(k:Int)<((ZB d).length:Int)from by omega,Uk,Zv,l,Bq,Up,Ul];split
  ·rename_i e1
   split
   ·rename_i f;rw[Uc ⟨e1,f⟩]
   ·rename_i f;rw[Ue (λq=>f q.2)]
  ·rename_i e1;rw[Ue (λq=>e1 q.1)]
 ·simp only[ZcK,Ui,Uj]
variable {i:Nat} {a:ZI}
theorem Zsx {x:Zp} (p:Zq1 a) (h:Zig a d x) (T:(Gu x).length<=1048576):((Zah i x).filter (λy=>y.2.2.2.1)).map (λy=>y.2.2.1)=[Zb6 x]:=by
 obtain⟨_,⟨c,o,X⟩,_⟩:=h;have s:2<=(K6 c).length:=(p.2.1 c (Ud o)).2.1.1;unfold Zah Zb6;rw[Zhm T];generalize f:Gu x=l;rw[f]at X;have b:l.length≠0:=by omega
 have g:∀(l:List Int) (m n:Nat),m+l.length=n+1->l.length≠0->((cat (λj N=>[((i:Int),(j:Int),N,decide ((j:Int)=(n:Int)),())]) m l).filter (λy:Pl=>y.2.2.2.1)).map (λy=>y.2.2.1)=[l.getLastD 0]:=by
  intro l;induction l with
  |nil=>intro m n _ k;simp at k
  |cons y r I =>
   intro m n R _;by_cases F:r=[]
   ·subst F
    simp only[Uf,Ug]at R;have:(m:Int)=(n:Int):=by omega
    simp[cat,this]
   ·have A:r.length≠0:=λe=>F (UC e)
    simp only[Uf]at R;have H:¬(m:Int)=(n:Int):=by omega
    have:=I (m+1) n (by omega) A;simp only[cat,U0,Uq];rw[List.filter_cons_of_neg (by simp[H]),this];cases r with
    |nil=>exact absurd rfl F
    |cons z q=>simp[List.getLastD_cons]
 exact g l 0 (l.length-1) (by omega) b
theorem Zsy (j:Nat) (p:Y8):((Zgq j p).filter (λy=>y.2.2.2.1)).map (λy=>y.2.2.1)=if GD p=1 then[GM p]else[]:=by
 unfold Zgq;by_cases h:GD p=1
 ·simp[h]
 ·simp[h]
theorem ZuD (h:Zbx a d) (T:sm Qv d):((ZB d).filter (λy=>y.2.2.2.1)).map (λy=>y.2.2.1)=ZDj d:=by
 unfold ZB ZDj;rw[List.filter_append,Kp];congr 1
 ·have:∀(l:List Zp) (m:Nat),(∀x∈l,Zig a d x/\(Gu x).length<=1048576)->((cat Zah m l).filter (λy=>y.2.2.2.1)).map (λy=>y.2.2.1)=l.map Zb6:=by
   intro l;induction l with
   |nil=>intro m _;rfl
   |cons x r i =>
    intro m q;have H:=q x (by simp);simp only[cat,List.filter_append,Kp,Kv];rw[Zsx h.1 H.1 H.2,i (m+1) (λy b=>q y (by simp[b]))];rfl
  exact this _ 0 (λx H=>⟨h.2.2.1 x H,ZK (ZpC (Zoj (Zjh T).1 H)).2⟩)
 ·have:∀(l:List Y8) (m:Nat),((cat Zgq m l).filter (λy=>y.2.2.2.1)).map (λy=>y.2.2.1)=(l.filter (λp=>decide (GD p=1))).map GM:=by
   intro l;induction l with
   |nil=>intro m;rfl
   |cons p r i =>
    intro m;simp only[cat,List.filter_append,Kp];rw[Zsy,i (m+1)];by_cases L:GD p=1
    ·simp[L]
    ·simp[L]
  exact this _ 0
theorem Zpf {a b:α} (W:i<j) (n:l[i]?=some a) (h:l[j]?=some b) (P:p a=true) (c:p b=true):2<=l.countP p:=by
 have e:l.countP p=(l.take j).countP p+(l.drop j).countP p:=by rw[<-KA,Kz]
 have d:0<(l.take j).countP p:=KJ.2 ⟨a,UA.2 ⟨i,by rw[UB,Uc W];exact n⟩,P⟩;have f:0<(l.drop j).countP p:=KJ.2 ⟨b,UA.2 ⟨0,by rw[Km];exact h⟩,c⟩;omega
def Ztw (n:Int) (x:Pl):Bool:=decide (x.2.2.1=n)&&x.2.2.2.1
def ZhL (d:Ze) (n:Int):Int:=ZaI (Ztw n) (ZB d)
theorem Zv6 (h:Zbx a d) (T:sm Qv d) (b:v<(Gp d).length):(ZB d).countP (Ztw (v:Int))=1:=by
 have H:=h.2.2.2.2 _ (Ud (Zkv (s:=ZDj d) b));rw[<-ZuD h T,List.countP_map,List.countP_filter]at H;have e:(ZB d).countP (Ztw (v:Int))=(ZB d).countP (λy=>((λx=>decide (x=(v:Int)))∘λy:Pl=>y.2.2.1) y&&y.2.2.2.1):=rfl;rw[e];omega
theorem Ztx (h:Zbx a d) (m:sm Qv d) (e:v<(Gp d).length:=by omega) :
  ∃(q:Nat) (y:Pl),(ZB d)[q]?=some y/\Ztw (v:Int) y=true/\ZhL d (v:Int)=(q:Int)/\∀(p:Nat) (z:Pl),(ZB d)[p]?=some z->Ztw (v:Int) z=true->p=q:=by
 have f:=Zv6 h m e;obtain⟨y,i,g⟩:=KJ.1 (show 0<(ZB d).countP (Ztw (v:Int)) by omega);obtain⟨q,b⟩:=UA.1 i;have u:∀(p:Nat) (z:Pl),(ZB d)[p]?=some z->Ztw (v:Int) z=true->p=q:=by
  intro p z T H;rcases Nat.lt_trichotomy p q with t|l|t
  ·have:=Zpf t T b H g;omega
  ·exact l
  ·have:=Zpf t b T g H;omega
 refine⟨q,y,b,g,Zmp b g (λj z k T=>?_),u⟩;cases c:Ztw (v:Int) z
 ·rfl
 ·have:=u j z T c;omega
end Go.Proofs.YtjkccpcebpeadaaGreatDoor
