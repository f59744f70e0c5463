/-
  Ground of the plain laws: loops by what they come to; small arithmetic.
-/
import Derived.Test.YtjkccpcebpeadaaGreatDoorE1
import Derived.IntWalk
import Derived.Test.YtjkccpcebpeadaaGreatDoorM
namespace Go.Proofs.YtjkccpcebpeadaaGreatDoor
set_option linter.unusedVariables false
set_option linter.unusedSimpArgs false
open Go Go.Sx
theorem Yy {n:Int} (d:-9223372036854775808<=n:=by omega) (f:n<=9223372036854775807:=by omega):Wq n=n:=IntWalk.i64_in n ⟨d,f⟩
theorem QP{n:Int}(a:-9223372036854775808<=n:=by omega)(b:n<=9223372036854775807:=by omega):Wq n=n:=Yy a b
variable {α:Type}
theorem Zv (l:List α) (k:Nat):atI l (k:Int)=l[k]?:=by simp[atI]
variable {l:List α} {i:Int} {x:α}
theorem Qt (k:0<=i) (Z:l[i.toNat]?=some x):atI l i=some x:=by simp[atI,k,Z]
theorem Zjv (k:0<=i) (d:i<l.length:=by omega):∃x,atI l i=some x/\l[i.toNat]?=some x :=
 ⟨l[i.toNat]'(by omega),by simp[atI,k],Ua _⟩
variable {p:Prop}
theorem Zk (h:p) (a:Option α):Zw p a=a:=by
 unfold Zw;exact Uc h
theorem QQ{α:Type}{p:Prop}{a:Option α}(h:p:=by omega):Zw p a=a:=Zk h a
variable {τ ρ:Type} (n:Nat) (I:Nat->τ->Prop) {v:τ}
theorem ZdQ {step:τ->Option (τ⊕ρ)} (Q:ρ->Prop) (H:I 0 v)
  (s:∀k v,k<n->I k v->(∃v',step v=some (.inl v')/\I (k+1) v')\/∃r,step v=some (.inr r)/\Q r)
  (Z:∀v,I n v->∃r,step v=some (.inr r)/\Q r):∃r,Zt step v=some r/\Q r:=by
 have:∀m k v,k+m=n->I k v->∃r,Zt step v=some r/\Q r:=by
  intro m;induction m with
  |zero =>
   intro k v b h;have:k=n:=by omega
   subst this;obtain⟨r,e,a⟩:=Z v h;exact⟨r,YF e,a⟩
  |succ m i =>
   intro k v b h;rcases s k v (by omega) h with⟨v',e,q⟩|⟨r,e,a⟩
   ·obtain⟨r,d,f⟩:=i (k+1) v' (by omega) q
    exact⟨r,by rw[YW e];exact d,f⟩
   ·exact⟨r,YF e,a⟩
 exact this n 0 v (by omega) H
variable (R:ρ)
theorem YC {step:τ->Option (τ⊕ρ)} (H:I 0 v)
  (q:∀k v,k<n->I k v->(∃v',step v=some (.inl v')/\I (k+1) v')\/step v=some (.inr R))
  (Z:∀v,I n v->step v=some (.inr R)):Zt step v=some R:=by
 obtain⟨r,d,f⟩:=ZdQ n I (λr=>r=R) H (λk v a m=>(q k v a m).elim .inl (λh=>.inr ⟨R,h,rfl⟩)) (λv m=>⟨R,Z v m,rfl⟩);rw[d,f]
variable {σ:Type}
theorem ZJH {step:σ->Option (σ⊕ρ)} (I:σ->Prop) (μ:σ->Nat) (R:ρ) {v:σ} (k:I v)
  (q:∀v,I v->(∃v',step v=some (.inl v')/\I v'/\μ v'<μ v)\/step v=some (.inr R)):Zt step v=some R:=by
 obtain⟨r,d,f⟩:=Ze5 I μ (λr=>r=R) k (λv m=>(q v m).elim .inl (λh=>.inr ⟨R,h,rfl⟩));rw[d,f]
variable {k:Nat}
theorem XF (Z:l[k]?=some x):l.take (k+1)=l.take k++[x]:=by
 rw[List.take_add_one,Z];rfl
theorem Zqx {g:Nat->Option ρ} {v:ρ} (h:∃n,g n=some v) (L:∀n r,g n=some r->r=v):ZAD g=some v:=by
 obtain⟨n,W⟩:=h;unfold ZAD;have Z:∃r n,g n=some r:=⟨v,n,W⟩;grind
def sm:(t:Ty)->t.den->Prop
 | .str,s=>(s.length:Int)<=1048576
 | .sl t,l=>(l.length:Int)<=1048576/\∀x∈l,sm t x
 | .pair a b,d=>sm a d.1/\sm b d.2
 |_,_=>True
noncomputable def tr (p:Prop):Bool:=@decide p (Classical.propDecidable p)
variable {b:Bool}
theorem Zm3 (h:b=true<->p):tr p=b:=by
 unfold tr;grind
theorem Xf (p:Prop):tr p=true<->p:=by simp[tr]
theorem ZR (h:p):tr p=true:=(Xf p).2 h
theorem ZT (h:¬p):tr p=false:=by simp[tr,h]
def within (n a b:Int):Bool:=decide (a<=n)&&decide (n<=b)
theorem Jb (n a b:Int):Z6 n a b=some (within n a b):=by
 unfold Z6 within;split<;>simp[*]
theorem JZ (n a b:Int):ZV n a b=some (within n a b):=by
 unfold ZV within;split<;>simp[*]
theorem QD (n a b:Int):within n a b=true<->a<=n/\n<=b:=by simp[within]
def Zhf (b:UInt8):Bool:=decide (97<=b.toNat)&&decide (b.toNat<=122)
def ZlS (b:UInt8):Bool:=decide (48<=b.toNat)&&decide (b.toNat<=57)
def ZaK (s:List UInt8):Bool:=decide (1<=s.length)&&decide (s.length<=8)&&s.all (λb=>Zhf b||ZlS b)&&(match s with
 |b::_=>Zhf b
 | []=>false)
def Zq3 (s:List UInt8) (i:Nat):Prop:=∀(j:Nat) (b:UInt8),j<i->s[j]?=some b->(Zhf b||ZlS b)=true/\(j=0->Zhf b=true)
variable {s:List UInt8}
theorem Zs1 {i:Nat} {x:UInt8} (h:Zq3 s i) (Z:s[i]?=some x) (d:(Zhf x||ZlS x)=true) (f:i=0->Zhf x=true):Zq3 s (i+1):=by
 intro j b a H;by_cases e:j<i
 ·exact h j b e H
 ·have:j=i:=by omega
  subst this;rw[Z]at H;injection H with H;subst H
  exact⟨d,f⟩
theorem Zqq (h:Zq3 s s.length):ZaK s=(decide (1<=s.length)&&decide (s.length<=8)):=by
 unfold ZaK;have d:s.all (λb=>Zhf b||ZlS b)=true:=by
  rw[Kw];intro b a;obtain⟨j,H⟩:=UA.1 a;exact(h j b (Ub.1 H).1 H).1
 rw[d];cases s with
 |nil=>rfl
 |cons b r =>
  have:=(h 0 b (by simp) rfl).2 rfl;simp[this]
variable {j:Nat}
theorem ZuS {b:UInt8} (H:s[j]?=some b) (h:(Zhf b||ZlS b)=false\/j=0/\Zhf b=false):ZaK s=false:=by
 unfold ZaK;rcases h with h|⟨rfl,h⟩
 ·have:s.all (λb=>Zhf b||ZlS b)=false:=by
   rw[List.all_eq_false];exact⟨b,Ud H,by simp[h]⟩
  simp[this]
 ·cases s with
  |nil=>simp at H
  |cons c r=>simp at H;subst H;simp[h]
variable (s:List UInt8)
theorem Zcf (q:s.length<=4611686018427387904):ZaN s=some (ZaK s):=by
 unfold ZaN;refine YC s.length (λk v=>v.1=(k:Int)/\Zq3 s k) _ ⟨rfl,λj b c=>by omega⟩ ?_ ?_
 ·rintro k ⟨i,⟨⟩⟩ a ⟨rfl,H⟩
  have Z:s[k]?=some s[k]:=Ua a;generalize s[k]=x at Z;simp only[Zes,Zv,Z,Bq,show(k:Int)<(s.length:Int)from by omega,Uk,Yy (show(-9223372036854775808:Int)<=(k:Int)+1 by omega)];have ok:(Zhf x||ZlS x)=true->(k=0->Zhf x=true)->(((k:Int)+1,()):Int×Unit).1=((k+1:Nat):Int)/\Zq3 s (k+1):=λd f=>⟨by simp,Zs1 H Z d f⟩;have bad:((Zhf x||ZlS x)=false\/k=0/\Zhf x=false)->(some (Sum.inr false):Option (Int×Unit⊕Bool))=some (Sum.inr (ZaK s)):=λh=>by rw[ZuS Z h]
  simp only[Zhf,ZlS]at ok bad;repeat' split
  all_goals first
   |(left;refine⟨_,rfl,ok ?_ ?_⟩<;>simp<;>omega)
   |(right;refine bad ?_;first|(left;simp;omega)|(right;simp;omega))
 ·rintro⟨i,⟨⟩⟩ ⟨rfl,H⟩
  simp only[Zes,Ui,Uj];rw[Zqq H];split
  ·rename_i h
   have d:1<=s.length:=by omega
   have f:decide ((s.length:Int)<=8)=decide (s.length<=8):=by rw[Kx];omega
   simp[d,f]
  ·have d:¬1<=s.length:=by omega
   simp[d]
theorem dropWhile_nil {p:UInt8->Bool}:∀(m:List UInt8),(∀x∈m.dropWhile p,p x=true)->∀x∈m,p x=true
 |[],_=>by simp
 |a::m,h=>by
  by_cases H:p a=true
  ·rw[List.dropWhile_cons_of_pos H]at h
   intro x Z;rcases Us.1 Z with rfl|Z
   ·exact H
   ·exact dropWhile_nil m h x Z
  ·rw[List.dropWhile_cons_of_neg H]at h
   exact absurd (h a (by simp)) H
theorem ZkB {p:UInt8->Bool}:∀(m:List UInt8),m.dropWhile p=[]<->∀x∈m,p x=true
 |[]=>by simp
 |a::m=>by
  by_cases h:p a=true
  ·rw[List.dropWhile_cons_of_pos h,ZkB m];simp[h]
  ·rw[List.dropWhile_cons_of_neg h];simp[h]
theorem ZxD (cs:List UInt8):Lib.trimS s cs=[]<->∀b∈s,cs.contains b=true:=by
 unfold Lib.trimS Lib.trimLeftS Lib.trimRightS;rw[ZkB];constructor
 ·intro h b H
  exact dropWhile_nil s.reverse (λx Z=>h x (List.mem_reverse.2 Z)) b (List.mem_reverse.2 H)
 ·intro h b H
  exact h b (List.mem_reverse.1 ((List.dropWhile_sublist _).subset (List.mem_reverse.1 H)))
def letters:List UInt8:=[97,98,99,100,101,102,103,104,105,106,107,108,109,110,111,112,113,114,115,116,117,118,119,120,121,122]
def ZhT:List UInt8:=letters++[48,49,50,51,52,53,54,55,56,57]
theorem Zzn {p:UInt8->Bool} (h:(List.range 256).all (λn=>p (UInt8.ofNat n))=true) (b:UInt8):p b=true:=by
 rw[Kw]at h;have:=h b.toNat (Ky.2 b.toNat_lt);simpa using this
theorem Zis (b:UInt8):ZhT.contains b=(Zhf b||ZlS b):=by
 have:=Zzn (p:=λb=>ZhT.contains b==(Zhf b||ZlS b)) (by decide +kernel) b;simpa using this
theorem Zsb:Lib.trimS s ZhT=[]<->s.all (λb=>Zhf b||ZlS b)=true:=by
 rw[ZxD,Kw];simp only[Zis]
theorem Zqg (b:UInt8):decide (0<=(Lib.indexByte letters b:Int))=Zhf b:=by
 have:=Zzn (p:=λb=>decide (0<=(Lib.indexByte letters b:Int))==Zhf b) (by decide +kernel) b;simpa using this
theorem Zhd:ZeS s=some (ZaK s):=by
 unfold ZeS;rw[Jb,Bq];split
 ·rename_i h
  rw[QD]at h;rw[QQ];split
  ·rename_i t
   have H:=(Zsb s).1 t;cases s with
   |nil=>simp at h
   |cons b r =>
    have e:atI (b::r) (0:Int)=some b:=rfl;rw[e,Bq];have e1:((b.toNat:Int)).toNat.toUInt8=b:=by simp
    rw[e1];have d:1<=(b::r).length:=by simp
    have f:(b::r).length<=8:=by omega
    have:=Zqg b;unfold letters at this;rw[this];simp only[ZaK,H,UJ d,UJ f,KE]
  ·rename_i t
   have H:¬s.all (λb=>Zhf b||ZlS b)=true:=λe=>t ((Zsb s).2 e);simp only[ZaK,Bool.eq_false_iff.2 H,Bool.and_false,Bool.false_and]
 ·rename_i h
  rw[QD]at h;have:¬(1<=s.length/\s.length<=8):=by omega
  rw[eq_comm];congr 1;rw[Bool.eq_false_iff];intro hh;simp only[ZaK,Up,Ul]at hh;omega
variable (l:List (List UInt8))
theorem ZmW (s:List UInt8) (q:l.length<=4611686018427387904):∃r,QW l s=some r/\(0<=r<->s∈l):=by
 unfold QW;refine ZdQ l.length (λk v=>v.1=(k:Int)/\s ∉ l.take k) _ ⟨rfl,by simp⟩ ?_ ?_
 ·rintro k ⟨i,⟨⟩⟩ a ⟨rfl,H⟩
  have Z:l[k]?=some l[k]:=Ua a;generalize l[k]=x at Z;simp only[QX,Zv,Z,Bq,show(k:Int)<(l.length:Int)from by omega,Uk,Yy (show(-9223372036854775808:Int)<=(k:Int)+1 by omega)];split
  ·rename_i e;subst e
   exact .inr ⟨_,rfl,λ_=>Ud Z,λ_=>by simp⟩
  ·rename_i e
   exact .inl ⟨_,rfl,by simp,by rw[XF Z];simp[H,e]⟩
 ·rintro⟨i,⟨⟩⟩ ⟨rfl,H⟩
  simp only[QX,Ui,Uj];refine⟨_,rfl,λh=>by omega,λh=>absurd h (by simpa using H)⟩
theorem Zkb (s:List UInt8) (q:l.length<=4611686018427387904):Qj l s=some (decide (s∈l)):=by
 obtain⟨r,d,f⟩:=ZmW l s q;unfold Qj;rw[d,Bq];simp only[f]
def V4 (l:List (List UInt8)) (k:Nat):Prop:=∀(j:Nat) (s:List UInt8),j<k->l[j]?=some s->ZaK s=true/\s ∉ l.take j
theorem VK (a:l.length<=4611686018427387904:=by omega):Vs l=some (tr (V4 l l.length)):=by
 unfold Vs;refine YC l.length (λk v=>v.1=(k:Int)/\V4 l k) _ ⟨rfl,λj s b=>by omega⟩ ?_ ?_
 ·rintro k ⟨i,⟨⟩⟩ H ⟨rfl,h⟩
  have Z:l[k]?=some l[k]:=Ua H;generalize l[k]=x at Z;simp only[Zdm,Zv,Z,Bq,show(k:Int)<(l.length:Int)from by omega,Uk,Yy (show(-9223372036854775808:Int)<=(k:Int)+1 by omega),Zhd];split
  ·rename_i W
   rw[QQ,QQ];simp only[UG,Int.toNat_zero,KL,Nat.sub_zero];rw[Zkb _ _ (by simp only[Uo];omega),Bq];split
   ·rename_i Q
    right;rw[ZT];intro hh;exact(hh k x H Z).2 (by simpa using Q)
   ·rename_i Q
    refine .inl ⟨_,rfl,by simp,λj s b q=>?_⟩;by_cases e:j<k
    ·exact h j s e q
    ·have:j=k:=by omega
     subst this;rw[Z]at q;injection q with q;subst q
     exact⟨W,by simpa using Q⟩
  ·rename_i W
   right;rw[ZT];intro hh;exact W (hh k x H Z).1
 ·rintro⟨i,⟨⟩⟩ ⟨rfl,h⟩
  simp only[Zdm,Ui,Uj];rw[ZR h]
def allIn (l:List Int) (o h:Int):Bool:=l.all (λn=>within n o h)
theorem Zcv (l:List Int) (o h:Int) (q:l.length<=4611686018427387904:=by omega):Xy l o h=some (allIn l o h):=by
 have d:∃r,Yp l (o,h,())=some r/\(0<=r<->allIn l o h=false):=by
  unfold Yp;refine ZdQ l.length (λk v=>v.1=(k:Int)/\allIn (l.take k) o h=true) _ ⟨rfl,rfl⟩ ?_ ?_
  ·rintro k ⟨i,⟨⟩⟩ H ⟨rfl,s⟩
   have Z:l[k]?=some l[k]:=Ua H;generalize l[k]=x at Z;simp only[Yz,ZeQ,Jb,Zv,Z,Bq,show(k:Int)<(l.length:Int)from by omega,Uk,Yy (show(-9223372036854775808:Int)<=(k:Int)+1 by omega)];cases c:within x o h
   ·refine .inr ⟨_,rfl,λ_=>?_,λ_=>by simp⟩
    rw[allIn,List.all_eq_false];grind
   ·refine .inl ⟨_,rfl,by simp,?_⟩
    rw[XF Z,allIn,List.all_append];simp only[allIn]at s;simp[s,c]
  ·rintro⟨i,⟨⟩⟩ ⟨rfl,s⟩
   rw[Ur]at s;simp only[Yz,Ui,Uj];grind
 obtain⟨r,d,f⟩:=d;unfold Xy YJ;grind
def Len {α:Type} (l:List α):Prop:=l.length<=4611686018427387904
variable {l:List α}
theorem Zvw (q:Len l) (H:k<=l.length:=by omega):Wq ((k:Int)+1)=((k+1:Nat):Int):=by
 have:l.length<=4611686018427387904:=q;rw[QP];simp
def ZaI {α:Type} (p:α->Bool) (l:List α):Int:=match l.findIdx? p with
 |some i=>i
 |none=>-1
variable {p:α->Bool}
theorem Zwm:ZaI p l<l.length:=by
 unfold ZaI;split
 ·rename_i i h
  have:=(U9.1 h).1;omega
 ·omega
theorem Vr:0<=ZaI p l<->l.any p=true:=by
 unfold ZaI;grind
theorem Jh (q:Len l) {step:Int×Unit->Option ((Int×Unit)⊕ρ)} {out:Int->ρ}
  (a:∀(k:Nat) (x:α),l[k]?=some x->step ((k:Int),())=some (if p x=true then .inr (out k)else .inl (Wq ((k:Int)+1),())))
  (Z:step ((l.length:Int),())=some (.inr (out (-1)))):Zt step (0,())=some (out (ZaI p l)):=by
 refine YC l.length (λk v=>v.1=(k:Int)/\∀x∈l.take k,p x=false) _ ⟨rfl,by simp⟩ ?_ ?_
 ·rintro k ⟨i,⟨⟩⟩ H ⟨h,s⟩
  simp only at h;subst h;have Z:l[k]?=some l[k]:=Ua H;rw[a k _ Z,Zvw q];split
  ·rename_i g
   right;have:l.findIdx? p=some k:=by
    rw[U9];refine⟨H,g,λj b=>?_⟩;have:=s l[j] (UA.2 ⟨j,by grind⟩);simp[this]
   unfold ZaI;rw[this]
  ·rename_i g
   refine .inl ⟨_,rfl,rfl,?_⟩;rw[XF Z];grind
 ·rintro⟨i,⟨⟩⟩ ⟨h,s⟩
  simp only at h;subst h;rw[Ur]at s;have:l.findIdx? p=none:=List.findIdx?_eq_none_iff.2 s;rw[Z];unfold ZaI;rw[this]
def XU {α σ:Type} (f:Nat->α->σ->σ):Nat->List α->σ->σ
 |_,[],s=>s
 |k,x::r,s=>XU f (k+1) r (f k x s)
theorem ZgM {α σ:Type} (f:Nat->α->σ->σ):∀(l r:List α) (m:Nat) (s:σ),XU f m (l++r) s=XU f (m+l.length) r (XU f m l s)
 |[],r,m,s=>by simp[XU]
 |x::l,r,m,s=>by
  simp only[U0,XU,Uf,ZgM f l r];grind
variable {f:Nat->α->σ->σ}
theorem Zcq (Z:l[k]?=some x) (s:σ):XU f 0 (l.take (k+1)) s=f k x (XU f 0 (l.take k) s):=by
 have H:=(Ub.1 Z).1;rw[XF Z,ZgM];simp only[XU,Uw,Uo];grind
variable {R:ρ}
theorem Zbl (q:Len l) (p:σ->Int->τ) {step:τ->Option (τ⊕ρ)} {s0:σ} (I:Nat->σ->Prop) (h:I 0 s0)
  (b:∀(k:Nat) (x:α) (s:σ),l[k]?=some x->I k s->s=XU f 0 (l.take k) s0->step (p s (k:Int))=some (.inl (p (f k x s) (Wq ((k:Int)+1))))/\I (k+1) (f k x s))
  (Z:∀s,I l.length s->s=XU f 0 l s0->step (p s (l.length:Int))=some (.inr R)):Zt step (p s0 0)=some R:=by
 refine YC l.length (λk v=>v=p (XU f 0 (l.take k) s0) (k:Int)/\I k (XU f 0 (l.take k) s0)) _ ⟨rfl,h⟩ ?_ ?_
 ·rintro k _ a ⟨rfl,m⟩
  have Z:l[k]?=some l[k]:=Ua a;obtain⟨d,H⟩:=b k _ _ Z m rfl;rw[d,Zvw q];exact .inl ⟨_,rfl,by rw[Zcq Z],by rw[Zcq Z];exact H⟩
 grind
theorem ZnA {α β:Type} (g:α->β):∀(l:List α) (m:Nat) (a:List β),XU (λ_ x s=>s++[g x]) m l a=a++l.map g
 |[],_,_=>by simp[XU]
 |x::l,m,a=>by simp[XU,ZnA g l]
variable {β:Type}
theorem ZtY (q:Len l) (p:List β->Int->τ) {g:α->β} {step:τ->Option (τ⊕ρ)} {s0:List β}
  (a:∀(k:Nat) (x:α),l[k]?=some x->∀s,s=s0++(l.take k).map g->step (p s (k:Int))=some (.inl (p (s++[g x]) (Wq ((k:Int)+1)))))
  (Z:step (p (s0++l.map g) (l.length:Int))=some (.inr R)):Zt step (p s0 0)=some R:=by
 refine Zbl q p (f:=λ_ x s=>s++[g x]) (λ_ _=>True) trivial (λk x s H _ h=>⟨a k x H s (by rw[h,ZnA]),trivial⟩) (λs _ h=>?_);rw[h,ZnA];exact Z
noncomputable def sel {ρ:Type} (P:Prop) (a b:ρ):ρ:=match tr P with
 |true=>a
 |false=>b
variable {P:Prop}
theorem Xr (h:P) (a b:ρ):sel P a b=a:=by simp[sel,ZR h]
theorem Y7 (h:¬P) (a b:ρ):sel P a b=b:=by simp[sel,ZT h]
theorem Zhz (P:Prop):sel P true false=tr P:=by
 by_cases h:P
 ·rw[Xr h,ZR h]
 ·rw[Y7 h,ZT h]
def ZeM {α:Type} (l:List α) (P:Nat->α->Prop):Prop:=∀(k:Nat) (x:α),l[k]?=some x->P k x
variable {bad good:ρ}
theorem QF (q:Len l) (P:Nat->α->Prop) {step:Int×Unit->Option ((Int×Unit)⊕ρ)}
  (c:∀(k:Nat) (x:α),l[k]?=some x->k<l.length->(∀(j:Nat) (y:α),j<k->l[j]?=some y->P j y)->(P k x->step ((k:Int),())=some (.inl (Wq ((k:Int)+1),())))/\(¬P k x->step ((k:Int),())=some (.inr bad)))
  (Z:ZeM l P->step ((l.length:Int),())=some (.inr good)):Zt step (0,())=some (sel (ZeM l P) good bad):=by
 refine YC l.length (λk v=>v.1=(k:Int)/\∀(j:Nat) (y:α),j<k->l[j]?=some y->P j y) _ ⟨rfl,λj y e=>by omega⟩ ?_ ?_
 ·rintro k ⟨i,⟨⟩⟩ a ⟨H,s⟩
  simp only at H;subst H;have Z:l[k]?=some l[k]:=Ua a;obtain⟨d,f⟩:=c k _ Z a s;by_cases p:P k l[k]
  ·rw[d p,Zvw q]
   grind
  ·right
   rw[f p,Y7 (λh=>p (h k _ Z))]
 ·rintro⟨i,⟨⟩⟩ ⟨H,s⟩
  simp only at H;subst H;have b:ZeM l P:=λk x a=>s k x (Ub.1 a).1 a;rw[Z b,Xr b]
theorem ZtW (m n:Nat) (H:m<=n) (W:n<=4611686018427387904) (P:Nat->Prop) {step:Int×Unit->Option ((Int×Unit)⊕ρ)}
  (q:∀k:Nat,m<=k->k<n->(∀j,m<=j->j<k->P j)->(P k->step ((k:Int),())=some (.inl (Wq ((k:Int)+1),())))/\(¬P k->step ((k:Int),())=some (.inr bad)))
  (Z:(∀j,m<=j->j<n->P j)->step ((n:Int),())=some (.inr good)):Zt step ((m:Int),())=some (sel (∀j,m<=j->j<n->P j) good bad):=by
 refine YC (n-m) (λk v=>v.1=((m+k:Nat):Int)/\∀j,m<=j->j<m+k->P j) _ ⟨by simp,λj d f=>by omega⟩ ?_ ?_
 ·rintro k ⟨i,⟨⟩⟩ a ⟨l,s⟩
  simp only at l;subst l;obtain⟨d,f⟩:=q (m+k) (by omega) (by omega) s;by_cases p:P (m+k)
  ·rw[d p,QP]
   grind
  ·right
   rw[f p,Y7 (λh=>p (h (m+k) (by omega) (by omega)))]
 ·rintro⟨i,⟨⟩⟩ ⟨l,s⟩
  simp only at l;subst l;have e:m+(n-m)=n:=by omega
  rw[e]at s ⊢;rw[Z s,Xr s]
variable {l:List ZH} {f:Bool×Unit}
theorem QV (q:Len l) (p:ZH->Bool) (g:∀x∈l,Jf x f.fst=some (p x)):Z7 l f=some (ZaI p l):=by
 unfold Z7;refine Jh (out:=λi=>i) q (p:=p) (λk x Z=>?_) ?_
 ·have H:=(Ub.1 Z).1
  simp only[Yi,Zv,Z,Bq,show(k:Int)<(l.length:Int)from by omega,Uk,g x (Ud Z)];split<;>rfl
 ·simp only[Yi,Ui,Uj]
theorem QB (q:Len l) (p:ZH->Bool) (g:∀x∈l,Jf x f.fst=some (p x)):ZW l f=some (l.any p):=by
 unfold ZW;rw[QV q p g,Bq];congr 1;rw[Ko,Ul,Vr]
theorem Vk {l:List XI} {f:Unit} (q:Len l) (p:XI->Bool) (g:∀x∈l,Zd0 x=some (p x)):Yb l f=some (ZaI p l):=by
 unfold Yb;refine Jh (out:=λi=>i) q (p:=p) (λk x Z=>?_) ?_
 ·have H:=(Ub.1 Z).1
  simp only[Ym,Zv,Z,Bq,show(k:Int)<(l.length:Int)from by omega,Uk,g x (Ud Z)];split<;>rfl
 ·simp only[Ym,Ui,Uj]
variable {l:List ZL} {f:ZL×Unit}
theorem Q7 (q:Len l) (p:ZL->Bool) (g:∀x∈l,Q5 x f.fst=some (p x)):Z8 l f=some (ZaI p l):=by
 unfold Z8;refine Jh (out:=λi=>i) q (p:=p) (λk x Z=>?_) ?_
 ·have H:=(Ub.1 Z).1
  simp only[Yj,Zv,Z,Bq,show(k:Int)<(l.length:Int)from by omega,Uk,g x (Ud Z)];split<;>rfl
 ·simp only[Yj,Ui,Uj]
theorem QG (q:Len l) (p:ZL->Bool) (g:∀x∈l,Q5 x f.fst=some (p x)):Z0 l f=some (l.any p):=by
 unfold Z0;rw[Q7 q p g,Bq];congr 1;rw[Ko,Ul,Vr]
variable {f:Int×Unit}
theorem Vu (q:Len l) (p:ZL->Bool) (g:∀x∈l,Zc8 x f.fst=some (p x)):Ye l f=some (ZaI p l):=by
 unfold Ye;refine Jh (out:=λi=>i) q (p:=p) (λk x Z=>?_) ?_
 ·have H:=(Ub.1 Z).1
  simp only[Yq,Zv,Z,Bq,show(k:Int)<(l.length:Int)from by omega,Uk,g x (Ud Z)];split<;>rfl
 ·simp only[Yq,Ui,Uj]
theorem Va (q:Len l) (p:ZL->Bool) (g:∀x∈l,Zc8 x f.fst=some (p x)):Z9 l f=some (l.any p):=by
 unfold Z9;rw[Vu q p g,Bq];congr 1;rw[Ko,Ul,Vr]
variable {l:List Int} {f:Ze×Unit}
theorem Vb (q:Len l) (p:Int->Bool) (g:∀x∈l,Qq x f.fst=some (p x)):Ya l f=some (ZaI p l):=by
 unfold Ya;refine Jh (out:=λi=>i) q (p:=p) (λk x Z=>?_) ?_
 ·have H:=(Ub.1 Z).1
  simp only[Yl,Zv,Z,Bq,show(k:Int)<(l.length:Int)from by omega,Uk,g x (Ud Z)];split<;>rfl
 ·simp only[Yl,Ui,Uj]
theorem QI (q:Len l) (p:Int->Bool) (g:∀x∈l,Qq x f.fst=some (p x)):Z4 l f=some (l.any p):=by
 unfold Z4;rw[Vb q p g,Bq];congr 1;rw[Ko,Ul,Vr]
variable {f:Unit}
theorem JV (q:Len l) (p:Int->Bool) (g:∀x∈l,Zc9 x=some (p x)):YB l f=some (ZaI p l):=by
 unfold YB;refine Jh (out:=λi=>i) q (p:=p) (λk x Z=>?_) ?_
 ·have H:=(Ub.1 Z).1
  simp only[YQ,Zv,Z,Bq,show(k:Int)<(l.length:Int)from by omega,Uk,g x (Ud Z)];split<;>rfl
 ·simp only[YQ,Ui,Uj]
theorem Js (q:Len l) (p:Int->Bool) (g:∀x∈l,Zc9 x=some (p x)):Yu l f=some (l.any p):=by
 unfold Yu;rw[JV q p g,Bq];congr 1;rw[Ko,Ul,Vr]
variable {f:ZG×Unit}
theorem QC {l:List Zf} (q:Len l) (p:Zf->Bool) (g:∀x∈l,VX x f.fst=some (p x)):ZX l f=some (ZaI p l):=by
 unfold ZX;refine Jh (out:=λi=>i) q (p:=p) (λk x Z=>?_) ?_
 ·have H:=(Ub.1 Z).1
  simp only[Yd,Zv,Z,Bq,show(k:Int)<(l.length:Int)from by omega,Uk,g x (Ud Z)];split<;>rfl
 ·simp only[Yd,Ui,Uj]
theorem Qr {l:List Zf} (q:Len l) (p:Zf->Bool) (g:∀x∈l,VX x f.fst=some (p x)):ZU l f=some (l.any p):=by
 unfold ZU;rw[QC q p g,Bq];congr 1;rw[Ko,Ul,Vr]
theorem XT {l:List Zu} (q:Len l) (p:Zu->Bool) (g:∀x∈l,VY x f.fst=some (p x)):ZP l f=some (ZaI p l):=by
 unfold ZP;refine Jh (out:=λi=>i) q (p:=p) (λk x Z=>?_) ?_
 ·have H:=(Ub.1 Z).1
  simp only[ZY,Zv,Z,Bq,show(k:Int)<(l.length:Int)from by omega,Uk,g x (Ud Z)];split<;>rfl
 ·simp only[ZY,Ui,Uj]
theorem XH {l:List Zu} (q:Len l) (p:Zu->Bool) (g:∀x∈l,VY x f.fst=some (p x)):ZN l f=some (l.any p):=by
 unfold ZN;rw[XT q p g,Bq];congr 1;rw[Ko,Ul,Vr]
theorem Zf0 {v:Int} (q:Len l):Xz l v=some (ZaI (λx=>decide (v=x)) l):=by
 unfold Xz;refine Jh (out:=λi=>i) q (λk x Z=>?_) ?_
 ·have H:=(Ub.1 Z).1
  simp only[Xg,Zv,Z,Bq,show(k:Int)<(l.length:Int)from by omega,Uk,Ul];split<;>rfl
 ·simp only[Xg,Ui,Uj]
theorem ZeX {v:Int} (q:Len l):YK l v=some (decide (v∈l)):=by
 unfold YK;rw[Zf0 q,Bq];congr 1;rw[Ko,Ul,Ul,Vr,KN];simp
theorem Y4 {l:List Zj} {f:Int×Unit} (q:Len l) (p:Zj->Bool) (g:∀x∈l,ZfF x f.fst=some (p x)):Z5 l f=some (ZaI p l):=by
 unfold Z5;refine Jh (out:=λi=>i) q (p:=p) (λk x Z=>?_) ?_
 ·have H:=(Ub.1 Z).1
  simp only[Yg,Zv,Z,Bq,show(k:Int)<(l.length:Int)from by omega,Uk,g x (Ud Z)];split<;>rfl
 ·simp only[Yg,Ui,Uj]
theorem ZIx {l:List Y6} {f:Int×Int×Unit} (q:Len l) (p:Y6->Bool) (g:∀x∈l,ZIE x f.fst f.snd.fst=some (p x)):ZIr l f=some (ZaI p l):=by
 unfold ZIr;refine Jh (out:=λi=>i) q (p:=p) (λk x Z=>?_) ?_
 ·have H:=(Ub.1 Z).1
  simp only[ZIs,Zv,Z,Bq,show(k:Int)<(l.length:Int)from by omega,Uk,g x (Ud Z)];split<;>rfl
 ·simp only[ZIs,Ui,Uj]
theorem ZeN {a:Bool} (h:a=true<->b=true):a=b:=by grind
variable {Q:Prop}
theorem Xj (h:P<->Q):tr P=tr Q:=by rw[propext h]
def Inc (l:List Int):Prop:=∀(k:Nat) (x y:Int),l[k]?=some x->l[k+1]?=some y->x<y
def Zhj (l:List Int) (o h:Int):Prop:=∀x∈l,o<=x/\x<=h
variable (l:List Int) (o h:Int)
theorem Zko:allIn l o h=true<->Zhj l o h:=by
 unfold allIn Zhj;rw[Kw];simp only[QD]
theorem Zao:QA l=some (l.length:Int):=rfl
theorem Zam (q:Len l):Qz l=some (tr (Inc l)):=by
 unfold Qz;have i:l.length<=4611686018427387904:=q;by_cases H:l.length=0
 ·have:l=[]:=UC H
  subst this;rw[YF (r:=true) (by rfl)];have H:Inc []:=λk x y h=>by simp at h
  rw[ZR H]
 have:=ZtW (ρ:=Bool) 1 l.length (by omega) i (λk=>∀x y,l[k-1]?=some x->l[k]?=some y->x<y) (step:=λv=>QK l v.1) (bad:=false) (good:=true)
  (λk d f _=>by
   obtain⟨x,Z⟩:∃x,l[k-1]?=some x:=⟨_,Ua (by omega)⟩;obtain⟨y,e⟩:∃y,l[k]?=some y:=⟨_,Ua f⟩;have e1:Wq ((k:Int)-1)=((k-1:Nat):Int):=by rw[QP];omega
   simp only[QK,show (k:Int)<(l.length:Int) from by omega,Uk,e1,Zv,Z,e,Bq];grind)
  (λ_=>by simp only[QK,Ui,Uj])
 refine(show Zt (λv=>QK l v.1) ((1:Int),())=_ from this).trans ?_;rw[Zhz];congr 1;refine Xj ⟨λh k x y Z e=>?_,λh j d f x y Z e=>?_⟩
 ·exact h (k+1) (by omega) (Ub.1 e).1 x y (by simpa using Z) e
 ·exact h (j-1) x y Z (by grind)
def ZfL (l:List Int):Prop:=1<=l.length/\l.length<=4/\Zhj l 0 100000/\Inc l
theorem ZjB (q:Len l):Zgm l=some (tr (ZfL l)):=by
 unfold Zgm;rw[Zao,Bq,Jb,Bq,Zcv l _ _ q,Bq,Zam l q,Bq];have e:tr (ZfL l)=(within (l.length:Int) 1 4&&allIn l 0 100000&&tr (Inc l)):=by
  refine Zm3 ?_;simp only[Up,QD,Zko,Xf,ZfL];grind
 grind
theorem Zi0 (q:Len l):Zfs l=some (tr (ZfL l)):=by
 unfold Zfs;have i:l.length<=4611686018427387904:=q;rw[QF q (λk x=>(0<=x/\x<=100000)/\(0<k->∀ y,l[k-1]?=some y->y<x)) (bad:=false) (good:=decide (1<=l.length/\l.length<=4))
  (λk x Z a _=>by
   simp only[Zeo,show(k:Int)<(l.length:Int)from by omega,Uk,Zv,Z,Bq,JZ];by_cases c:within x 0 100000=true
   ·rw[Uc c]
    by_cases b:0<k
    ·obtain⟨y,e⟩:∃y,l[k-1]?=some y:=⟨_,Ua (by omega)⟩
     have e1:Wq ((k:Int)-1)=((k-1:Nat):Int):=by rw[QP];omega
     rw[Qe,e1,Zv,e,Bq];refine⟨λh=>?_,λh=>?_⟩
     ·grind
     ·rw[Uc]
      rcases Int.lt_or_le y x with H|H
      ·exact absurd ⟨(QD _ _ _).1 c,λ_ z S=>by grind⟩ h
      ·exact H
    ·rw[Qu]
     exact⟨λ_=>rfl,λh=>absurd ⟨(QD _ _ _).1 c,λH=>absurd H b⟩ h⟩
   ·rw[Ue c]
    exact ⟨λh=>absurd ((QD _ _ _).2 h.1) c,λ_=>rfl⟩)
  (λ_=>by
   simp only[Zeo,Ui,Uj];by_cases d:1<=l.length
   ·rw[Qe]
    congr 2;grind
   grind)]
 congr 1;refine ZeN ?_;rw[Xf];by_cases h:ZeM l (λk x=>(0<=x/\x<=100000)/\(0<k->∀y,l[k-1]?=some y->y<x))
 ·rw[Xr h,Ul]
  constructor
  ·rintro⟨d,f⟩
   refine⟨d,f,λx Z=>?_,λk x y Z e=>?_⟩
   ·obtain⟨k,a⟩:=UA.1 Z
    exact(h k x a).1
   ·exact(h (k+1) y e).2 (by omega) x (by simpa using Z)
  ·intro hh
   exact⟨hh.1,hh.2.1⟩
 ·rw[Y7 h]
  constructor
  ·intro hh;cases hh
  ·intro hh
   refine absurd ?_ h;intro k x a;refine⟨hh.2.2.1 x (Ud a),λb y e=>?_⟩;exact hh.2.2.2 (k-1) y x e (by grind)
def Jk (t:ZH):Prop:=ZfL (GT t)/\ZfL (Gq t)/\(Gr t).length=(GT t).length*(Gq t).length/\Zhj (Gr t) (-1000000) 1000000
def ZBD (t:ZH):Prop:=Len (GT t)/\Len (Gq t)/\Len (Gr t)
theorem ZfL.mul {a b:List Int} (m:ZfL a) (h:ZfL b):a.length*b.length<=16:=by
 have d:=m.2.1;have f:=h.2.1
 calc a.length*b.length<=4*4:=Kk d f
  _=16:=rfl
theorem Zt1 {a b:List Int} (m:ZfL a) (h:ZfL b):Wq ((a.length:Int)*(b.length:Int))=((a.length*b.length:Nat):Int):=by
 have:=m.mul h;have e:(a.length:Int)*(b.length:Int)=((a.length*b.length:Nat):Int):=by simp
 rw[e,QP]
variable (t:ZH)
theorem ZnH (h:ZBD t):ZgO t=some (tr (Jk t)):=by
 unfold ZgO;rw[ZjB _ h.1,Bq];by_cases d:ZfL (GT t)
 ·rw[Uc (ZR d),ZjB _ h.2.1,Bq]
  by_cases f:ZfL (Gq t)
  ·rw[Uc (ZR f),Zt1 d f]
   by_cases g:(Gr t).length=(GT t).length*(Gq t).length
   ·rw[Uc (by rw[g]),Zcv _ _ _ h.2.2,Bq]
    congr 1;refine ZeN ?_;rw[Zko,Xf];exact⟨λi=>⟨d,f,g,i⟩,λi=>i.2.2.2⟩
   ·rw[Qu,ZT (λhh=>g hh.2.2.1)]
  ·rw[Ue (by rw[ZT f];simp),ZT (λhh=>f hh.2.1)]
 ·rw[Ue (by rw[ZT d];simp),ZT (λhh=>d hh.1)]
theorem Zom (h:ZBD t):Zg3 t=some (tr (Jk t)):=by
 unfold Zg3;rw[Zi0 _ h.1,Bq];by_cases d:ZfL (GT t)
 ·rw[Uc (ZR d),Zi0 _ h.2.1,Bq]
  by_cases f:ZfL (Gq t)
  ·rw[Uc (ZR f),Zt1 d f]
   by_cases g:(Gr t).length=(GT t).length*(Gq t).length
   ·rw[Uc (by rw[g]),QF h.2.2 (λk x=>-1000000<=x/\x<=1000000) (bad:=false) (good:=true)
     (λk x Z H _=>by
      simp only[Zem,show (k:Int)<((Gr t).length:Int) from by omega,Uk,Zv,Z,Bq,JZ,QD];grind)
     (λ_=>by simp only[Zem,Ui,Uj]),Zhz]
    congr 1;refine Xj ⟨λi=>⟨d,f,g,λx Z=>?_⟩,λi k x Z=>i.2.2.2 x (Ud Z)⟩;obtain⟨k,H⟩:=UA.1 Z;exact i k x H
   ·rw[Qu,ZT (λhh=>g hh.2.2.1)]
  ·rw[Ue (by rw[ZT f];simp),ZT (λhh=>f hh.2.1)]
 ·rw[Ue (by rw[ZT d];simp),ZT (λhh=>d hh.1)]
variable (x:Int)
theorem ZqF (l:List Int) (q:Len (x::l)):V7 (x::l)=some (l.foldl min x):=by
 unfold V7;have a:(x::l).length<=4611686018427387904:=q;have e1:¬(((x::l).length:Int)<1):=by grind
 have f:atI (x::l) (0:Int)=some x:=rfl;rw[Ue e1,f,Bq];refine YC l.length (λk v=>v.1=(l.take k).foldl min x/\v.2.1=(((k+1:Nat)):Int)) _ ⟨by simp,rfl⟩ ?_ ?_
 ·rintro k ⟨m,i,⟨⟩⟩ b ⟨Q,h⟩
  simp only at Q h;subst Q;subst h;have Z:l[k]?=some l[k]:=Ua b;have H:(x::l)[k+1]?=some l[k]:=by simp
  simp only[VO,Zv,H,Bq,show((k+1:Nat):Int)<((x::l).length:Int)from by simp;omega,Uk];refine .inl ⟨_,rfl,?_,?_⟩
  ·rw[XF Z,List.foldl_append];rfl
  ·simp only[Uf]at a
   show Wq (((k+1:Nat):Int)+1)=((k+1+1:Nat):Int);rw[QP];omega
 ·rintro⟨m,i,⟨⟩⟩ ⟨Q,h⟩
  simp only at Q h;subst Q;subst h;rw[Ur];simp only[VO,show ¬(((l.length+1:Nat):Int)<((x::l).length:Int))from by simp,Uj]
theorem ZkJ (l:List Int):l.foldl min x<0<->x<0\/∃y∈l,y<0:=by
 induction l generalizing x with
 |nil=>simp
 |cons y r i =>
  simp only[Hy,i,Us,exists_eq_or_imp];grind
def ZcE (l:List ZH) (pos:Bool):Prop:=l.length=2/\∀t∈l,Jk t/\(pos=true->∀v∈Gr t,0<=v)
theorem Jk.some {t:ZH} (h:Jk t):∃x l,Gr t=x::l:=by
 have d:=h.1.1;have f:=h.2.1.1;have g:=h.2.2.1;have:1*1<=(GT t).length*(Gq t).length:=Kk d f;cases a:Gr t with
 |nil=>grind
 |cons x l=>exact⟨x,l,rfl⟩
variable (pos:Bool)
theorem Zjn (h:ZBD t):Jf t pos=some (! tr (Jk t/\(pos=true->∀v∈Gr t,0<=v))):=by
 unfold Jf;rw[ZnH _ h,Bq];by_cases d:Jk t
 ·rw[Uc (ZR d)]
  cases pos
  ·rw[Ue (by simp),ZR ⟨d,λe=>by cases e⟩];rfl
  ·obtain⟨x,l,a⟩:=d.some
   have n:=h.2.2;rw[Uc rfl,a];rw[a]at n;rw[ZqF x l n,Bq];congr 1;refine ZeN ?_;rw[Ul,ZkJ,UO,<-Bool.not_eq_true,Xf];constructor
   ·rintro(hh|⟨y,b,hh⟩) ⟨_,H⟩
    ·have:=H rfl x (by simp);omega
    grind
   grind
 ·rw[Ue (by rw[ZT d];simp),ZT (λhh=>d hh.1)];rfl
def ZzM (l:List ZH):Prop:=Len l/\∀t∈l,ZBD t
theorem ZeP (l:List ZH) (pos:Bool) (h:ZzM l):Zbm l pos=some (tr (ZcE l pos)):=by
 unfold Zbm;by_cases f:l.length=2
 ·rw[Qe,QB h.1 (λt=>! tr (Jk t/\(pos=true->∀v∈Gr t,0<=v))) (λt r=>Zjn t pos (h.2 t r)),Bq]
  congr 1;refine ZeN ?_;rw[UO,List.any_eq_false,Xf];simp only[UO,Bool.not_eq_false,Xf,Bool.not_eq_true];exact⟨λhh=>⟨f,hh⟩,λhh=>hh.2⟩
 ·rw[Qu,ZT (λhh=>f hh.1)]
variable {l:List α}
theorem ZhV (p:Nat->τ) (P:Nat->α->Prop) {step:τ->Option (τ⊕ρ)}
  (q:∀(k:Nat) (x:α),l[k]?=some x->k<l.length->(∀(j:Nat) (y:α),j<k->l[j]?=some y->P j y)->(P k x->step (p k)=some (.inl (p (k+1))))/\(¬P k x->step (p k)=some (.inr bad)))
  (Z:ZeM l P->step (p l.length)=some (.inr good)):Zt step (p 0)=some (sel (ZeM l P) good bad):=by
 refine YC l.length (λk v=>v=p k/\∀(j:Nat) (y:α),j<k->l[j]?=some y->P j y) _ ⟨rfl,λj y c=>by omega⟩ ?_ ?_
 ·rintro k v H ⟨rfl,s⟩
  have Z:l[k]?=some l[k]:=Ua H;obtain⟨d,f⟩:=q k _ Z H s;by_cases a:P k l[k]
  ·grind
  ·right
   rw[f a,Y7 (λh=>a (h k _ Z))]
 ·rintro v ⟨rfl,s⟩
  have b:ZeM l P:=λk x H=>s k x (Ub.1 H).1 H;rw[Z b,Xr b]
theorem Za1 (p:Nat->τ) {step:τ->Option (τ⊕ρ)}
  (q:∀(k:Nat) (x:α),l[k]?=some x->k<l.length->step (p k)=some (.inl (p (k+1)))) (Z:step (p l.length)=some (.inr good)):Zt step (p 0)=some good:=by
 have:=ZhV (l:=l) p (λ_ _=>True) (step:=step) (bad:=good) (good:=good) (λk x d f _=>⟨λ_=>q k x d f,λh=>absurd trivial h⟩) (λ_=>Z);rw[this,Xr (show ZeM l (λ_ _=>True)from λ_ _ _=>trivial)]
theorem ZnX (W:n<=4611686018427387904) (P:Nat->Prop) {step:Int×Unit->Option ((Int×Unit)⊕ρ)}
  (q:∀k:Nat,k<n->(P k->step ((k:Int),())=some (.inl (Wq ((k:Int)+1),())))/\(¬P k->step ((k:Int),())=some (.inr bad)))
  (Z:(∀j,j<n->P j)->step ((n:Int),())=some (.inr good)):Zt step ((0:Int),())=some (sel (∀j,j<n->P j) good bad):=by
 have:=ZtW (ρ:=ρ) 0 n (by omega) W P (step:=step) (bad:=bad) (good:=good) (λk _ h _=>q k h) (λh=>Z (λj b=>h j (by omega) b));grind
variable {t:Ty} {l:List t.den}
theorem YV (h:sm (.sl t) l):Len l:=by
 have d:(l.length:Int)<=1048576:=h.1;show l.length<=4611686018427387904;omega
variable {s:List UInt8}
theorem Zgz (h:sm .str s):s.length<=4611686018427387904:=by
 have d:(s.length:Int)<=1048576:=h;omega
variable {x:t.den}
theorem Zoj (h:sm (.sl t) l) (Z:x∈l):sm t x:=h.2 x Z
theorem Zg1 (h:sm (.sl t) l) (Z:l[k]?=some x):sm t x:=h.2 x (Ud Z)
theorem ZK (h:sm (.sl t) l):l.length<=1048576:=by
 have d:(l.length:Int)<=1048576:=h.1;omega
variable {t:ZH}
theorem Zvg (h:sm Zbi t):ZBD t:=⟨YV (t:=.int .i64) h.1,YV (t:=.int .i64) h.2.1,YV (t:=.int .i64) h.2.2.1⟩
theorem Zid {l:List ZH} (h:sm (.sl Zbi) l):ZzM l:=⟨YV h,λt r=>Zvg (Zoj h r)⟩
theorem Zkf (t:ZH) (h:ZBD t):∃r,Zde t=some r/\(Jk t->r.2=0/\(r.1.1<0<->∃v∈Gr t,v<0))/\(¬Jk t->r.2=1):=by
 unfold Zde;rw[Zom _ h,Bq];by_cases d:Jk t
 ·rw[Uc (ZR d)]
  obtain⟨x,l,a⟩:=d.some;have i:(x::l).length<=4611686018427387904:=by rw[<-a];exact h.2.2
  have f:atI (Gr t) (0:Int)=some x:=by rw[a];rfl
  rw[f,Bq];have:=Za1 (l:=l) (ρ:=Zz×Int) (λk=>((((k+1:Nat)):Int),(l.take k).foldl min x,(l.take k).foldl max x,())) (step:=λv=>JD t v.1 v.2.1 v.2.2.1) (good:=((l.foldl min x,l.foldl max x,()),0))
   (λk y e b=>by
    have H:(x::l)[k+1]?=some y:=by simpa using e
    simp only[Uf] at i;simp only[JD,a,Zv,H,Bq,show ((k+1:Nat):Int)<((x::l).length:Int) from by simp;omega,Uk];rw[XF e,List.foldl_append,List.foldl_append,QP];rfl)
   (by
    simp only[JD,a,Ur,show ¬(((l.length+1:Nat):Int)<((x::l).length:Int)) from by simp,Uj])
  refine⟨_,this,λ_=>⟨rfl,?_⟩,λW=>absurd d W⟩;rw[a];refine(ZkJ x l).trans ?_;simp
 ·rw[Ue (by rw[ZT d];simp)]
  grind
theorem Ze1 (l:List ZH) (pos:Bool) (h:ZzM l):YN l pos=some (tr (ZcE l pos)):=by
 unfold YN;by_cases f:l.length=2
 ·rw[Qe,QF h.1 (λk t=>Jk t/\(pos=true->∀ v∈Gr t,0<=v)) (bad:=false) (good:=true)
   (λk t Z H _=>by
    obtain ⟨r,E,b,c⟩:=Zkf t (h.2 t (Ud Z));simp only[ZcJ,show (k:Int)<2 from by omega,Uk,Zv,Z,Bq,E];by_cases a:Jk t;all_goals grind)
   (λ_=>by simp only[ZcJ,f];rfl),Zhz]
  congr 1;refine Xj ⟨λhh=>⟨f,λt a=>?_⟩,λhh k t H=>hh.2 t (Ud H)⟩;obtain⟨k,H⟩:=UA.1 a;exact hh k t H
 ·rw[Qu,ZT (λhh=>f hh.1)]
def Zfp (l:List XI):List (List UInt8):=l.map GE
def ZmT (l:List XI):Nat:=l.countP (λp=>Gg p)
def Zq2 (n k:Nat) (p:XI):Prop:=(0<=Hg p/\Hg p<=500)/\(k+1=n->Hp p=2/\Hg p=0/\Gg p=false)/\(k+1<n->Hp p=1)
def Zjr (l:List XI):Prop:=2<=l.length/\l.length<=5/\V4 (Zfp l) l.length/\ZeM l (Zq2 l.length)
theorem ZnJ (l:List XI) (h:sm (.sl ZqP) l):ZgP l=some (tr (Zjr l)):=by
 unfold ZgP;have q:=ZK h;have:=ZhV (l:=l) (ρ:=Bool) (λk=>((Zfp l).take k,(k:Int),())) (Zq2 l.length) (step:=λv=>JN l v.1 v.2.1) (bad:=false) (good:=tr (2<=l.length/\l.length<=5/\V4 (Zfp l) l.length))
  (λk p Z a _=>by
   have W:(Zfp l)[k]?=some (GE p):=by simp[Zfp,Z]
   have e1:Wq ((l.length:Int)-1)=((l.length-1:Nat):Int):=by rw[QP];omega
   simp only[JN,show(k:Int)<(l.length:Int)from by omega,Uk,Zv,Z,Bq,e1];rw[Zk (by grind),XF W,QP];unfold Zq2;by_cases t:(k:Int)=((l.length-1:Nat):Int)
   ·grind
   ·rw[Ue t,Jb]
    have H:k+1<l.length:=by omega
    simp only[Bq,QD];grind)
  (λb=>by
   have e:(Zfp l).take l.length=Zfp l:=by rw[show l.length=(Zfp l).length by simp[Zfp],Ur]
   simp only[JN,Ui,Uj,e,Jb,Bq,show Zan l=some (l.length:Int)from rfl];have n:(Zfp l).length=l.length:=by simp[Zfp]
   by_cases c:within (l.length:Int) 2 5=true
   ·rw[Uc c,VK _ (by rw[n];omega),Bq,n]
    rw[QD]at c;grind
   ·rw[Ue c,ZT]
    intro hh;exact c ((QD _ _ _).2 (by omega)))
 refine(show Zt (λv=>JN l v.1 v.2.1) (([]:List (List UInt8)),(0:Int),())=_ from this).trans ?_;congr 1;refine ZeN ?_;rw[Xf];by_cases b:ZeM l (Zq2 l.length)
 ·rw[Xr b,Xf]
  exact⟨λhh=>⟨hh.1,hh.2.1,hh.2.2,b⟩,λhh=>⟨hh.1,hh.2.1,hh.2.2.1⟩⟩
 ·rw[Y7 b]
  exact⟨λhh=>(by cases hh),λhh=>absurd hh.2.2.2 b⟩
variable {n:Nat}
theorem Zhm (h:n<=1048576:=by omega) (d:1<=n:=by omega):Wq ((n:Int)-1)=((n-1:Nat):Int):=by rw[QP];omega
theorem Xd (h:n<=1048576:=by omega):Wq ((n:Int)+1)=((n+1:Nat):Int):=by rw[QP];omega
variable {l:List XI}
theorem ZjE:s ∉ (Zfp l).take k<->∀(j:Nat) (q:XI),j<k->l[j]?=some q->GE q≠s:=by
 constructor
 ·intro h j q b a e
  refine h (UA.2 ⟨j,?_⟩);rw[UB,Uc b];simp[Zfp,a,e]
 ·intro h Q
  obtain⟨j,b⟩:=UA.1 Q;rw[UB]at b;split at b
  ·rename_i H
   simp only[Zfp,UL,Ku]at b;obtain⟨q,a,e⟩:=b;exact h j q H a e
  ·cases b
variable (c:Zq)
theorem Zoo (h:sm (.sl ZqP) (K6 c)):Zg5 c=some (sel (Zjr (K6 c)) ((ZmT (K6 c):Int),true) ((0:Int),false)):=by
 unfold Zg5;have L:=ZK h;by_cases y:((K6 c).length:Int)<2
 ·rw[Uc y,Y7 (λhh=>by have:=hh.1;omega)]
 by_cases B:(5:Int)<((K6 c).length:Int)
 ·rw[Ue y,Uc B,Y7 (λhh=>by have:=hh.2.1;omega)]
 rw[Ue y,Ue B];have e1:Wq (((K6 c).length:Int)-1)=(((K6 c).length-1:Nat):Int):=Zhm L;have:=ZhV (l:=K6 c) (ρ:=Int×Bool) (λk=>((((K6 c).take k).countP (λp=>Gg p):Int),(k:Int),()))
  (λk p=>(ZaK (GE p)=true/\∀(j:Nat) (q:XI),j<k->(K6 c)[j]?=some q->GE q≠GE p)/\Zq2 (K6 c).length k p) (step:=λv=>J3 c v.1 v.2.1) (bad:=((0:Int),false)) (good:=((ZmT (K6 c):Int),true))
  (λk p Z F _=>by
   have D:((K6 c).take k).countP (λp=>Gg p)<=5:=by
    have I:=KV (p:=λp=>Gg p) (l:=(K6 c).take k);rw[Uo]at I;omega
   have m:((K6 c).take (k+1)).countP (λp=>Gg p)=((K6 c).take k).countP (λp=>Gg p)+if Gg p=true then 1 else 0:=by
    rw[XF Z,KA];simp[K1]
   have g:(GE p).length<=4611686018427387904:=Zgz (Zg1 h Z).1;have R:∀(v:Int),VH c v (k:Int) p (k:Int)=sel (ZaK (GE p)=true/\Zq2 (K6 c).length k p) (some (Sum.inr (Sum.inl (if Gg p=true then Wq (v+1)else v,((k+1:Nat):Int),())))) (some (Sum.inr (Sum.inr (0,false)))):=by
    intro v;simp only[VH,Ui,Uj,Zcf _ g,JZ,Bq,e1,Xd (show k<=1048576 by omega),QD];unfold Zq2;by_cases W:ZaK (GE p)=true
    ·by_cases G:0<=Hg p/\Hg p<=500
     ·by_cases t:k+1=(K6 c).length
      ·have E:(k:Int)=(((K6 c).length-1:Nat):Int):=by omega
       have w:¬((k:Int)<(((K6 c).length-1:Nat):Int)):=by omega
       have x:¬(k+1<(K6 c).length):=by omega
       rw[Uc W,Uc G,Uc E];by_cases a:Hp p=2
       ·by_cases b:Hg p=0
        ·by_cases d:Gg p=true
         ·rw[Uc a,Uc b,Uc d,Y7]
          rintro⟨_,_,H,_⟩;have:=(H t).2.2;rw[d]at this;cases this
         ·rw[Uc a,Uc b,Ue d,Ue w,Ue d,Xr ⟨W,G,λ_=>⟨a,b,by simpa using d⟩,λH=>absurd H x⟩]
          simp[d]
        ·rw[Uc a,Ue b,Y7]
         rintro⟨_,_,H,_⟩;exact b (H t).2.1
       ·rw[Ue a,Y7]
        rintro⟨_,_,H,_⟩;exact a (H t).1
      ·have E:¬(k:Int)=(((K6 c).length-1:Nat):Int):=by omega
       have w:(k:Int)<(((K6 c).length-1:Nat):Int):=by omega
       have x:k+1<(K6 c).length:=by omega
       rw[Uc W,Uc G,Ue E,Uc w];by_cases a:Hp p=1
       ·rw[Uc a,Xr ⟨W,G,λH=>absurd H t,λ_=>a⟩]
        by_cases d:Gg p=true
        ·rw[Uc d,Uc d]
        ·rw[Ue d,Ue d]
       ·rw[Ue a,Y7]
        rintro⟨_,_,_,H⟩;exact a (H x)
     ·rw[Uc W,Ue G,Y7 (λhh=>G hh.2.1)]
    ·rw[Ue W,Y7 (λhh=>W hh.1)]
   have i:∀(v:Int) (good:(Int×Int×Unit)⊕(Int×Bool)),((∀(j:Nat) (q:XI),j<k->(K6 c)[j]?=some q->GE q≠GE p)->VH c v (k:Int) p (k:Int)=some (.inr good))->
     Zt (λv'=>VH c v (k:Int) p v'.1) ((0:Int),())=some (sel (∀j,j<k->∀q,(K6 c)[j]?=some q->GE q≠GE p) good (.inr (0,false))):=by
    intro v good K;refine ZnX k (by omega) (λj=>∀q,(K6 c)[j]?=some q->GE q≠GE p) (λj o=>?_) (λhh=>K (λj q o f=>hh j o q f));obtain⟨q,f⟩:∃q,(K6 c)[j]?=some q:=⟨_,Ua (by omega)⟩;simp only[VH,show(j:Int)<(k:Int)from by omega,Uk,Zv,f,Bq];refine⟨λhh=>by rw[Ue (hh q rfl)],λhh=>?_⟩;rw[Uc];apply Uz;intro A;exact hh (λQ n=>by injection n with n;subst n;exact A)
   simp only[J3,show(k:Int)<((K6 c).length:Int)from by omega,Uk,Zv,Z,Bq];constructor
   ·rintro⟨⟨a,b⟩,d⟩
    rw[i _ (.inl (((((K6 c).take (k+1)).countP (λp=>Gg p):Nat):Int),((k+1:Nat):Int),())) (λ_=>by
     rw[R,Xr ⟨a,d⟩,m];by_cases u:Gg p=true
     ·rw[Uc u,Uc u,Xd]
     ·rw[Ue u,Ue u];rfl),Xr (λj o q f=>b j q o f)]
   ·intro hh
    rw[i _ (.inr (0,false)) (λW=>by
     rw[R,Y7 (λH=>hh ⟨⟨H.1,W⟩,H.2⟩)])]
    by_cases C:∀j,j<k->∀q,(K6 c)[j]?=some q->GE q≠GE p
    ·rw[Xr C]
    ·rw[Y7 C])
  (λ_=>by simp only[J3,Ui,Uj,Ur];rfl)
 refine(show Zt (λv=>J3 c v.1 v.2.1) ((0:Int),(0:Int),())=_ from this).trans ?_;congr 1;have e:ZeM (K6 c) (λk p=>(ZaK (GE p)=true/\∀(j:Nat) (q:XI),j<k->(K6 c)[j]?=some q->GE q≠GE p)/\Zq2 (K6 c).length k p)<->Zjr (K6 c):=by
  constructor
  ·intro z
   refine⟨by omega,by omega,λj s o J=>?_,λk p r=>(z k p r).2⟩;simp only[Zfp,UL,Ku]at J;obtain⟨q,f,rfl⟩:=J;exact⟨(z j q f).1.1,ZjE.2 (z j q f).1.2⟩
  ·intro hh k p r
   have F:=(Ub.1 r).1;have W:=hh.2.2.1 k (GE p) F (by simp[Zfp,r]);exact⟨⟨W.1,ZjE.1 W.2⟩,hh.2.2.2 k p r⟩
 rw[propext e]
def ZpX (l:List XI) (i:Int):Bool:=match l[i.toNat]? with
 |some p=>Gg p
 |none=>false
def Zlb (c:Zq) (a:ZL):Prop :=
  (0<=Gi a/\Gi a<=((K6 c).length:Int)-2)/\(0<=Gn a/\Gn a<=((K6 c).length:Int)-1)/\
  ((K9 a=1/\ZpX (K6 c) (Gi a)=false/\Gn a=((K6 c).length:Int)-1/\(1<=Gx a/\Gx a<=3)/\ZcE (Gy a) true/\ZcE (GO a) true)\/
   ((K9 a=2\/K9 a=3)/\ZpX (K6 c) (Gi a)=true/\Gn a=((K6 c).length:Int)-1/\Gx a=0/\ZcE (Gy a) true/\ZcE (GO a) true)\/
   ((K9 a=4\/K9 a=5)/\ZpX (K6 c) (Gi a)=true/\Gn a<((K6 c).length:Int)-1/\ZpX (K6 c) (Gn a)=false/\Gx a=0/\ZcE (Gy a) false/\(GO a).length=0))
theorem Zlb.kind {c:Zq} {a:ZL} (h:Zlb c a):1<=K9 a/\K9 a<=5:=by
 rcases h.2.2 with h|h|h
 all_goals grind
variable {m:Option Bool}
theorem Qp {_:Decidable P} (H:P->m=some (tr Q)):(if P then m else some false)=some (tr (P/\Q)):=by
 by_cases h:P
 ·grind
 ·rw[Ue h,ZT (λq=>h q.1)]
theorem Zgf {_:Decidable P} (H:¬P->m=some (tr Q)):(if P then some false else m)=some (tr (¬P/\Q)):=by
 by_cases h:P
 ·rw[Uc h,ZT (λq=>q.1 h)]
 grind
theorem ZbT (h:b=true<->P):some b=some (tr P):=by rw[Zm3 h]
theorem ZeO (h:m=some (tr P)) (q:P<->Q):m=some (tr Q):=by rw[h,propext q]
theorem ZpE (h:¬Q):(some false:Option Bool)=some (tr Q):=by rw[ZT h]
theorem Zdj (h:m=some (tr P)):(m.bind λb=>some b)=some (tr P):=by rw[h];rfl
theorem YO {M:Option Bool} (h:m=some (tr P)) (f:P->M=some (tr Q)):(m.bind λb=>if b=true then M else some false)=some (tr (P/\Q)):=by
 rw[h,Bq];by_cases g:P
 ·rw[Uc (ZR g),f g];grind
 ·rw[Ue (by rw[ZT g];simp),ZT (λq=>g q.1)]
theorem Ztm {M:Option Bool} (h:m=some (tr P)) (f:¬P->M=some (tr Q)):(m.bind λb=>if b=true then some false else M)=some (tr (¬P/\Q)):=by
 rw[h,Bq];by_cases g:P
 ·rw[Uc (ZR g),ZT (λq=>q.1 g)]
 ·rw[Ue (by rw[ZT g];simp),f g];grind
theorem QT (n a b:Int):ZV n a b=some (tr (a<=n/\n<=b)):=by rw[JZ];exact ZbT (QD _ _ _)
theorem Qs (n a b:Int):Z6 n a b=some (tr (a<=n/\n<=b)):=by rw[Jb];exact ZbT (QD _ _ _)
theorem Zw2 (k:0<=i) (d:i<l.length:=by omega):∃p,atI l i=some p/\ZpX l i=Gg p:=by
 obtain⟨p,f,g⟩:=Zjv k d;exact⟨p,f,by simp[ZpX,g]⟩
variable (a:ZL)
theorem ZoZ (m:sm (.sl ZqP) (K6 c)) (L:sm (.sl Zbi) (Gy a)) (w:sm (.sl Zbi) (GO a)) (r:2<=(K6 c).length):Zh6 c a=some (tr (Zlb c a)):=by
 unfold Zh6;have s:=ZK m;have e1:Wq (((K6 c).length:Int)-1)=((K6 c).length:Int)-1:=QP;have E:Wq (((K6 c).length:Int)-1-1)=((K6 c).length:Int)-2:=by rw[QP];omega
 rw[e1,E];refine ZeO (YO (QT _ _ _) (λj=>YO (QT _ _ _) (λz=>?_))) (Q:=Zlb c a) (P:=(0<=Gi a/\Gi a<=((K6 c).length:Int)-2)/\(0<=Gn a/\Gn a<=((K6 c).length:Int)-1)/\Zlb c a) ⟨λhh=>hh.2.2,λhh=>⟨hh.1,hh.2.1,hh⟩⟩;obtain⟨p,H,d⟩:=Zw2 (l:=K6 c) j.1;rw[H,Bq];have D:=Zid L;have g:=Zid w;have t:∀b,(YN (Gy a) b).bind (λx=>if x=true then(YN (GO a) b).bind (λy=>some y)else some false)=some (tr (ZcE (Gy a) b/\ZcE (GO a) b)):=λb=>YO (Ze1 _ _ D) (λ_=>Zdj (Ze1 _ _ g));have T:(YN (Gy a) false).bind (λx=>if x=true then some (Decidable.decide (((GO a).length:Int)=(0:Int)))else some false)=some (tr (ZcE (Gy a) false/\(GO a).length=0)):=YO (Ze1 _ _ D) (λ_=>ZbT (by grind));unfold Zlb;rw[d];by_cases k1:K9 a=1
 ·simp only[k1,Uk]
  refine ZeO (Zgf (λi=>Qp (λh=>YO (QT _ _ _) (λ_=>t true)))) ?_;grind
 by_cases k:K9 a=2
 ·simp only[k,Uk,Int.reduceEq,Uj]
  refine ZeO (Qp (λi=>Qp (λh=>Qp (λ_=>t true)))) ?_;grind
 by_cases K:K9 a=3
 ·simp only[K,Uk,Int.reduceEq,Uj]
  refine ZeO (Qp (λi=>Qp (λh=>Qp (λ_=>t true)))) ?_;grind
 have C:(if Gg p=true then(if Gn a<((K6 c).length:Int)-1 then(atI (K6 c) (Gn a)).bind (λX=>if Gg X=true then some false else if Gx a=0 then(YN (Gy a) false).bind (λx=>if x=true then some (Decidable.decide (((GO a).length:Int)=(0:Int)))else some false)else some false)else some false)else some false) =
   some (tr (Gg p=true/\Gn a<((K6 c).length:Int)-1/\ZpX (K6 c) (Gn a)=false/\Gx a=0/\ZcE (Gy a) false/\(GO a).length=0)):=by
  refine Qp (λ_=>Qp (λh=>?_));obtain⟨q,e,f⟩:=Zw2 (l:=K6 c) z.1;rw[e,Bq,f];refine ZeO (Zgf (λ_=>Qp (λ_=>T))) ?_;grind
 by_cases n:K9 a=4
 ·grind
 by_cases o:K9 a=5
 ·grind
 ·simp only[k1,k,K,n,o,Uj]
  refine ZpE ?_;grind
def ZjT (l:List XI):Int:=ZaI (λp=>Gg p) l
theorem ZkL (h:sm (.sl ZqP) (K6 c)):ZdZ c=some (ZjT (K6 c)):=by
 unfold ZdZ;rw[Vk (YV h) (λp=>Gg p) (λp _=>rfl),Bq];rfl
theorem Zdk (h:sm (.sl ZqP) (K6 c)):Zbd c=some (((K6 c).length:Int)-1):=by
 have q:=ZK h;show some (Wq (((K6 c).length:Int)-1))=_;rw[QP]
theorem ZfO (i:Int) (h:sm (.sl ZqP) (K6 c)):Zat c i=some (tr (0<=i/\i<=((K6 c).length:Int)-2)):=by
 have q:=ZK h;unfold Zat;rw[Zdk c h,Bq,QP];refine ZeO (Zdj (Qs _ _ _)) ?_;omega
def ZxT (c:Zq) (a:ZL):Prop :=
 ((K9 a=4\/K9 a=5)/\Gx a=0/\(GO a).length=0/\ZcE (Gy a) false/\Gi a=ZjT (K6 c)/\0<=Gi a/\(0<=Gn a/\Gn a<=((K6 c).length:Int)-2)/\Gn a≠Gi a)\/
 (¬(K9 a=4\/K9 a=5)/\ZcE (Gy a) true/\ZcE (GO a) true/\Gn a=((K6 c).length:Int)-1/\(0<=Gi a/\Gi a<=((K6 c).length:Int)-2)/\
  ((K9 a=1/\ZpX (K6 c) (Gi a)=false/\(1<=Gx a/\Gx a<=3))\/((K9 a=2\/K9 a=3)/\ZpX (K6 c) (Gi a)=true/\Gx a=0)))
theorem ZnK (k:Int):ZgR k=some (tr (k=4\/k=5)):=by
 unfold ZgR;split
 ·rename_i h;rw[ZR (.inl h)]
 ·rename_i h
  exact ZbT (by grind)
theorem Zqc (g:sm (.sl ZqP) (K6 c)) (L:sm (.sl Zbi) (Gy a)) (w:sm (.sl Zbi) (GO a)):Zd1 c a=some (tr (ZxT c a)):=by
 unfold Zd1;have D:=Zid L;have H:=Zid w;rw[ZnK,Bq];by_cases k:K9 a=4\/K9 a=5
 ·rw[Uc (ZR k)]
  refine ZeO (Qp (λ_=>Qp (λ_=>YO (ZeP _ _ D) (λ_=>?_)))) (P:=Gx a=0/\((GO a).length:Int)=0/\ZcE (Gy a) false/\(Gi a=ZjT (K6 c)/\0<=Gi a/\(0<=Gn a/\Gn a<=((K6 c).length:Int)-2)/\Gn a≠Gi a)) ?_
  ·rw[ZkL c g,Bq]
   refine Qp (λ_=>Qp (λ_=>YO (ZfO c _ g) (λ_=>ZbT ?_)));grind
  ·unfold ZxT
   grind
 ·rw[Ue (by rw[ZT k];simp)]
  refine ZeO (YO (ZeP _ _ D) (λ_=>YO (ZeP _ _ H) (λ_=>?_))) (P:=ZcE (Gy a) true/\ZcE (GO a) true/\(Gn a=((K6 c).length:Int)-1/\(0<=Gi a/\Gi a<=((K6 c).length:Int)-2)/\
   ((K9 a=1/\ZpX (K6 c) (Gi a)=false/\(1<=Gx a/\Gx a<=3))\/((K9 a=2\/K9 a=3)/\ZpX (K6 c) (Gi a)=true/\Gx a=0)))) ?_
  ·rw[Zdk c g,Bq]
   refine Qp (λ_=>YO (ZfO c _ g) (λj=>?_));obtain⟨p,h,d⟩:=Zw2 (l:=K6 c) j.1;rw[h,d];simp only[Bq];by_cases k1:K9 a=1
   ·simp only[k1,Uk]
    refine ZeO (Zgf (λ_=>Zdj (Qs _ _ _))) ?_;grind
   by_cases K:K9 a=2
   ·simp only[K,Uk,Int.reduceEq,Uj]
    refine ZeO (Qp (λ_=>ZbT (KB))) ?_;grind
   by_cases Q:K9 a=3
   ·simp only[Q,Uk,Int.reduceEq,Uj]
    refine ZeO (Qp (λ_=>ZbT (KB))) ?_;grind
   ·simp only[k1,K,Q,Uj]
    refine ZpE ?_;grind
  ·unfold ZxT
   grind
def Zgr (o a:ZL):Prop:=K9 o=K9 a/\Gi o=Gi a/\Gn o=Gn a
def Apart (l:List ZL) (k:Nat) (a:ZL):Prop:=∀(j:Nat) (o:ZL),j<k->l[j]?=some o->¬Zgr o a
structure Zo8 (c:Zq):Prop where
 name:(G0 c).length<=4611686018427387904
 pins:sm (.sl ZqP) (K6 c)
 arcs:sm (.sl Zow) (Ge c)
 truth:sm (.sl (.int .i64)) (Gw c)
theorem ZzE {c:Zq} (h:sm ZgA c):Zo8 c:=⟨Zgz h.1,h.2.2.1,h.2.2.2.1,h.2.2.2.2.1⟩
theorem ZCx {a:ZL} (h:sm Zow a):sm (.sl Zbi) (Gy a)/\sm (.sl Zbi) (GO a):=⟨h.2.2.2.2.1,h.2.2.2.2.2.1⟩
theorem ZkM (o a:ZL):Q5 o a=some (tr (Zgr o a)):=by
 unfold Q5 Zgr;exact Qp (λ_=>Qp (λ_=>ZbT KB))
theorem ZnI (h:Zo8 c):Zcs c=some (tr ((Ge c).length<=8/\ZeM (Ge c) (λk a=>ZxT c a/\Apart (Ge c) k a))):=by
 unfold Zcs;have q:=ZK h.arcs;rw[QF (YV h.arcs) (λk a=>ZxT c a/\Apart (Ge c) k a) (bad:=false) (good:=decide ((Ge c).length<=8))
  (λk a Z l _=>by
   obtain⟨g,i⟩:=ZCx (Zg1 h.arcs Z);simp only[ZaT,show(k:Int)<((Ge c).length:Int)from by omega,Uk,Zv,Z,Bq,Zqc c a h.pins g i];by_cases b:ZxT c a
   ·rw[Uc (ZR b),QQ,QQ]
    simp only[UG,Int.toNat_zero,KL,Nat.sub_zero];rw[QG (by show((Ge c).take k).length<=4611686018427387904;grind) (λo=>tr (Zgr o a)) (λo _=>ZkM o a),Bq];have e:((Ge c).take k).any (λo=>tr (Zgr o a))=true<->¬Apart (Ge c) k a:=by
     rw[KN];constructor
     ·rintro⟨o,f,q⟩ G
      obtain⟨j,H⟩:=UA.1 f;rw[UB]at H;split at H
      ·rename_i d;exact G j o d H ((Xf _).1 q)
      ·cases H
     ·intro W
      apply Uz;intro m;refine W (λj o H f q=>m ⟨o,?_,ZR q⟩);exact UA.2 ⟨j,by grind⟩
    grind
   ·rw[Ue (by rw[ZT b];simp)]
    grind)
  (λ_=>by
   simp only[ZaT,Ui,Uj];congr 2;grind)]
 congr 1;refine ZeN ?_;rw[Xf];by_cases b:ZeM (Ge c) (λk a=>ZxT c a/\Apart (Ge c) k a)
 ·rw[Xr b,Ul];grind
 ·rw[Y7 b];grind
def ZqX (c:Zq) (k:Int):Prop:=∃a∈Ge c,K9 a=k
theorem ZeR (k:Int) (h:Zo8 c):V5 c k=some (tr (ZqX c k)):=by
 unfold V5;rw[Va (YV h.arcs) (λa=>decide (K9 a=k)) (λa _=>rfl),Bq];refine ZbT ?_;rw[KN];simp only[Ul,ZqX]
def ZgH (c:Zq):Prop :=
 (GX c=1/\ZmT (K6 c)=0/\(Gw c).length=2^((K6 c).length-1)/\Zhj (Gw c) 0 1)\/
 (GX c=2/\ZmT (K6 c)=1/\(Gw c).length=0/\¬ZqX c 1/\(ZqX c 2<->¬ZqX c 3))\/
 (GX c=3/\ZmT (K6 c)=1/\(Gw c).length=0/\ZqX c 1/\ZqX c 2/\¬ZqX c 3)
theorem Zw6 (h:n<=4):(2:Nat)^n<=16:=by
 calc (2:Nat)^n<=2^4:=Nat.pow_le_pow_right (by omega) h
  _=16:=rfl
variable {m:Nat}
theorem ZBU (h:m<=4:=by omega):Wq ((1:Int)*(2:Int)^min m (IntKind.bits IntKind.i64))=((2^m:Nat):Int):=by
 have b:min m (IntKind.bits IntKind.i64)=m:=Nat.min_eq_left (by show m<=64;omega);have e:(1:Int)*(2:Int)^m=((2^m:Nat):Int):=by simp
 rw[b,e];have H:=Zw6 h;clear b e;generalize 2^m=g at H ⊢;rw[QP]
theorem ZmQ (h:Zo8 c) (g:Zjr (K6 c)):Zby c=some (tr (ZgH c)):=by
 unfold Zby
 have f:=g.1;have j:=g.2.1;refine (show Zt (λv=>Qy c v.1 v.2.1) ((0:Int),(0:Int),())=_ from Za1 (l:=K6 c) (ρ:=Bool) (λk=>((((K6 c).take k).countP (λp=>Gg p):Int),(k:Int),())) (step:=λv=>Qy c v.1 v.2.1)
  (λk p Z H=>by
   have D:((K6 c).take k).countP (λp=>Gg p)<=5:=by
    have d:=KV (p:=λp=>Gg p) (l:=(K6 c).take k);grind
   have m:((K6 c).take (k+1)).countP (λp=>Gg p)=((K6 c).take k).countP (λp=>Gg p)+if Gg p=true then 1 else 0:=by
    rw[XF Z,KA];grind
   simp only[Qy,show(k:Int)<((K6 c).length:Int)from by omega,Uk,Zv,Z,Bq,m];by_cases q:Gg p=true
   ·rw[Uc q,Uc q,Xd,Xd]
   ·rw[Ue q,Ue q,Xd];rfl)
  ?_)
 have t:=Zdk c h.pins;simp only[Qy,Ui,Uj,Ur,t,Bq,show(((K6 c).length:Int)-1).toNat=(K6 c).length-1 from by omega,ZBU (show(K6 c).length-1<=4 by omega)];have E:((K6 c).countP (λp=>Gg p):Int)=0<->ZmT (K6 c)=0:=by unfold ZmT;omega
 have e:((K6 c).countP (λp=>Gg p):Int)=1<->ZmT (K6 c)=1:=by unfold ZmT;omega
 unfold ZgH;by_cases k1:GX c=1
 ·simp only[k1,Uk]
  by_cases q:ZmT (K6 c)=0
  ·rw[Uc (E.2 q),QQ]
   by_cases r:(Gw c).length=2^((K6 c).length-1)
   ·rw[Uc (by rw[r]),Zcv _ _ _ (YV h.truth),Bq]
    congr 2;refine(Zm3 ?_).symm;rw[Zko];grind
   ·rw[Qu,ZT (by grind)]
  ·rw[Ue (λhh=>q (E.1 hh)),ZT (by grind)]
 by_cases K:GX c=2
 ·simp only[K,Uk,Int.reduceEq,Uj]
  by_cases q:ZmT (K6 c)=1
  ·rw[Uc (e.2 q)]
   by_cases r:(Gw c).length=0
   ·rw[Qe,ZeR c 1 h,Bq]
    by_cases d:ZqX c 1
    ·rw[Uc (ZR d),ZT (by grind)]
    ·rw[Ue (by rw[ZT d];simp),ZeR c 2 h,ZeR c 3 h]
     simp only[Bq];congr 2;refine(Zm3 ?_).symm;by_cases a:ZqX c 2<;>by_cases b:ZqX c 3<;>simp only[ZR,ZT,a,b,not_false_eq_true]<;>grind
   ·rw[Qu,ZT (by grind)]
  ·rw[Ue (λhh=>q (e.1 hh)),ZT (by grind)]
 by_cases Q:GX c=3
 ·simp only[Q,Uk,Int.reduceEq,Uj]
  by_cases q:ZmT (K6 c)=1
  ·rw[Uc (e.2 q)]
   by_cases r:(Gw c).length=0
   ·rw[Qe,ZeR c 1 h,Bq]
    by_cases d:ZqX c 1
    ·rw[Uc (ZR d),ZeR c 2 h,Bq]
     by_cases f:ZqX c 2
     ·rw[Uc (ZR f),ZeR c 3 h,Bq]
      congr 2;refine(Zm3 ?_).symm;rw[UO,<-Bool.not_eq_true,Xf];grind
     ·rw[Ue (by rw[ZT f];simp),ZT (by grind)]
    ·rw[Ue (by rw[ZT d];simp),ZT (by grind)]
   ·rw[Qu,ZT (by grind)]
  ·rw[Ue (λhh=>q (e.1 hh)),ZT (by grind)]
 ·simp only[k1,K,Q,Uj]
  rw[ZT (by grind)]
def ZBO (c:Zq):Prop:=ZaK (G0 c)=true/\Zjr (K6 c)/\((Ge c).length<=8/\ZeM (Ge c) (λk a=>ZxT c a/\Apart (Ge c) k a))/\(0<=Hr c/\Hr c<=100000)/\(0<=Hs c/\Hs c<=100000)/\ZgH c
def Zjp (c:Zq):Prop:=ZaK (G0 c)=true/\Zjr (K6 c)/\((Ge c).length<=8/\ZeM (Ge c) (λk a=>Zlb c a/\Apart (Ge c) k a))/\(0<=Hr c/\Hr c<=100000)/\(0<=Hs c/\Hs c<=100000)/\ZgH c
theorem ZyJ {i:Nat} {p q:XI} (V:i<j) (g:l[i]?=some p) (a:l[j]?=some q) (c:Gg p=true) (C:Gg q=true):2<=ZmT l:=by
 unfold ZmT;have e:l.countP (λp=>Gg p)=(l.take j).countP (λp=>Gg p)+(l.drop j).countP (λp=>Gg p):=by rw[<-KA,Kz]
 have d:0<(l.take j).countP (λp=>Gg p):=KJ.2 ⟨p,UA.2 ⟨i,by grind⟩,c⟩;have f:0<(l.drop j).countP (λp=>Gg p):=KJ.2 ⟨q,UA.2 ⟨0,by grind⟩,C⟩;omega
theorem Zpd (h:ZmT l<=1) (k:0<=i):ZpX l i=true<->i=ZjT l:=by
 unfold ZjT ZaI ZpX;constructor
 ·intro q
  split at q
  ·rename_i p d
   split
   ·rename_i j b
    obtain⟨r,H,a⟩:=U9.1 b;have g:l[j]?=some l[j]:=Ua r;rcases Nat.lt_trichotomy i.toNat j with t|y|t
    ·grind
    ·omega
    ·have:=ZyJ t g d H q;omega
   grind
  ·cases q
 ·intro c
  split at c
  ·rename_i j b
   obtain⟨r,H,a⟩:=U9.1 b;grind
  ·omega
theorem Zuz (h:Zjr l):ZpX l ((l.length:Int)-1)=false:=by
 have f:=h.1;have g:l[l.length-1]?=some l[l.length-1]:=Ua (by omega);have:=((h.2.2.2 _ _ g).2.1 (by omega)).2.2;unfold ZpX;rw[show((l.length:Int)-1).toNat=l.length-1 by omega,g];exact this
theorem ZvA {c:Zq} (g:Zjr (K6 c)) (H:ZmT (K6 c)<=1) (a:ZL):ZxT c a<->Zlb c a:=by
 have f:=g.1;have j:0<=Gi a->(ZpX (K6 c) (Gi a)=true<->Gi a=ZjT (K6 c)):=λh=>Zpd H h;have z:0<=Gn a->(ZpX (K6 c) (Gn a)=true<->Gn a=ZjT (K6 c)):=λh=>Zpd H h;have t:=Zuz g;have r:∀i,ZpX (K6 c) i=true->i<((K6 c).length:Int):=by
  intro i l;unfold ZpX at l;grind
 unfold ZxT Zlb;grind
theorem ZgH.ZmT {c:Zq} (h:ZgH c):ZmT (K6 c)<=1:=by
 rcases h with h|h|h
 all_goals grind
theorem Zx7:ZBO c<->Zjp c:=by
 unfold ZBO Zjp;constructor
 ·rintro⟨a,b,⟨c1,d⟩,e,f,g⟩
  exact⟨a,b,⟨c1,λk x Z=>⟨(ZvA b g.ZmT x).1 (d k x Z).1,(d k x Z).2⟩⟩,e,f,g⟩
 ·rintro⟨a,b,⟨c1,d⟩,e,f,g⟩
  exact⟨a,b,⟨c1,λk x Z=>⟨(ZvA b g.ZmT x).2 (d k x Z).1,(d k x Z).2⟩⟩,e,f,g⟩
theorem ZoK (h:sm ZgA c):ZhN c=some (tr (Zjp c)):=by
 have q:=ZzE h;unfold ZhN;refine ZeO (YO (by rw[Zhd];exact ZbT KT) (λ_=>YO (ZnJ _ q.pins) (λg=>YO (ZnI c q) (λ_=>YO (Qs _ _ _) (λ_=>YO (Qs _ _ _) (λ_=>Zdj (ZmQ c q g))))))) ?_;exact(Zx7 c)
def ZfH (l:List ZL):List Int:=(List.range 6).map (λ(j:Nat)=>((l.countP (λa=>decide (K9 a=(j:Int))):Nat):Int))
theorem Zdp (l:List ZL) (h:j<6):(ZfH l)[j]?=some ((l.countP (λa=>decide (K9 a=(j:Int))):Nat):Int):=by
 simp[ZfH,Kf h]
theorem ZmY (h:Zo8 c) (d:∀a∈Ge c,1<=K9 a/\K9 a<=5):Zf2 c=some (ZfH (Ge c)):=by
 unfold Zf2;have q:=ZK h.arcs;have H:List.replicate (Int.toNat (6:Int)) (0:Int)=ZfH ((Ge c).take 0):=by simp[ZfH];decide
 rw[H];refine Za1 (l:=Ge c) (ρ:=List Int) (λk=>((k:Int),ZfH ((Ge c).take k),())) (step:=λv=>Za3 c v.1 v.2.1)
  (λk a Z t=>?_) (by simp only[Za3,Ui,Uj,Ur])
 obtain⟨k1,o⟩:=d a (Ud Z);have n:K9 a=((K9 a).toNat:Int):=by omega
 have D:∀j:Nat,((Ge c).take k).countP (λa=>decide (K9 a=(j:Int)))<=1048576:=by
  intro j;have e:=KV (p:=λa=>decide (K9 a=(j:Int))) (l:=(Ge c).take k);grind
 simp only[Za3,show(k:Int)<((Ge c).length:Int)from by omega,Uk,Zv,Z,Bq];rw[Qt (by omega) (Zdp _ (show(K9 a).toNat<6 by omega)),Bq,Xd (D _),Xd];congr 3;rw[Prod.mk.injEq];refine⟨?_,rfl⟩;apply UI;intro j;by_cases b:(K9 a).toNat=j
 ·subst b
  rw[UF (by simp[ZfH];omega),Zdp _ (by omega),XF Z,KA];grind
 ·rw[UH b]
  by_cases F:j<6
  ·rw[Zdp _ F,Zdp _ F,XF Z,KA]
   grind
  ·rw[Uv (by simp[ZfH];omega),Uv (by simp[ZfH];omega)]
theorem Znt (j:Nat):0<(Ge c).countP (λa=>decide (K9 a=(j:Int)))<->ZqX c j:=by
 rw[KJ];simp only[Ul,ZqX]
theorem Zmb (h:Zo8 c) (g:Zjr (K6 c)) (e:GX c=1) :
  Zt (λv=>Zcz c ((ZmT (K6 c):Int),true) v.1) ((0:Int),())=some (.inr (tr (ZgH c))):=by
 have a:=g.1;have j:=g.2.1;have s:=ZK h.truth;have e1:Wq (((K6 c).length:Int)-1)=((K6 c).length:Int)-1:=QP;have f:IntKind.u64.wrap (((K6 c).length:Int)-1)=((K6 c).length:Int)-1:=IntWalk.u64_in _ (by omega);rw[QF (YV h.truth) (λk x=>0<=x/\x<=1) (bad:=.inr false) (good:=.inr (tr (ZmT (K6 c)=0/\(Gw c).length=2 ^ ((K6 c).length-1))))
  (λk x Z H _=>by
   simp only[Zcz,show (k:Int)<((Gw c).length:Int) from by omega,Uk,Zv,Z,Bq,JZ,QD];grind)
  (λ_=>by
   simp only[Zcz,Ui,Uj,e1,f];by_cases q:ZmT (K6 c)=0
   ·rw[Qe,QQ,show(((K6 c).length:Int)-1).toNat=(K6 c).length-1 by omega,ZBU]
    congr 2;congr 1;refine(Zm3 ?_).symm;grind
   ·rw[Qu,ZT (λhh=>q hh.1)])]
 congr 1;by_cases b:ZeM (Gw c) (λk x=>0<=x/\x<=1)
 ·rw[Xr b]
  congr 1;refine Xj ?_;have l:Zhj (Gw c) 0 1:=λx Z=>by
   obtain⟨k,H⟩:=UA.1 Z;exact b k x H
  unfold ZgH;grind
 ·rw[Y7 b,ZT]
  intro hh;rcases hh with hh|hh|hh
  ·exact b (λk x H=>hh.2.2.2 x (Ud H))
  all_goals grind
theorem ZoW (T:sm ZgA c):Zh4 c=some (tr (Zjp c)):=by
 have h:=ZzE T;have K:=ZK h.arcs;unfold Zh4;rw[Zoo c h.pins,Bq];by_cases C:¬Zjr (K6 c)
 ·rw[Y7 C,ZT (λhh=>C hh.2.1)];rfl
 have g:=Classical.not_not.1 C;rw[Xr g];simp only[Uk];refine ZeO (YO (P:=ZaK (G0 c)=true) (by rw[Zcf _ h.name];exact ZbT KT) (λW=>Zgf (λF=>YO (QT _ _ _) (λJ=>YO (QT _ _ _) (λI=>?_))))) (P:=ZaK (G0 c)=true/\¬((8:Int)<((Ge c).length:Int))/\(0<=Hr c/\Hr c<=100000)/\(0<=Hs c/\Hs c<=100000)/\(ZeM (Ge c) (λk a=>Zlb c a/\Apart (Ge c) k a)/\ZgH c)) ?_
 ·rw[QF (YV h.arcs) (λk a=>Zlb c a/\Apart (Ge c) k a) (bad:=false) (good:=tr (ZgH c))
   (λk a Z m _=>by
    obtain⟨z,A⟩:=ZCx (Zg1 h.arcs Z);simp only[ZeY,show(k:Int)<((Ge c).length:Int)from by omega,Uk,Zv,Z,Bq,ZoZ c a h.pins z A g.1];have i:Zt (λv=>Zcy c (k:Int) a v.1) ((0:Int),())=some (sel (∀j,j<k->∀o,(Ge c)[j]?=some o->¬Zgr o a) (.inl (Wq ((k:Int)+1),())) (.inr false)):=by
     refine ZnX k (by omega) (λj=>∀o,(Ge c)[j]?=some o->¬Zgr o a) (λj f=>?_) (λ_=>by simp only[Zcy,Ui,Uj]);obtain⟨o,d⟩:∃o,(Ge c)[j]?=some o:=⟨_,Ua (by omega)⟩;simp only[Zcy,show(j:Int)<(k:Int)from by omega,Uk,Zv,d,Bq];have e:(∀o',some o=some o'->¬Zgr o' a)<->¬Zgr o a:=⟨λhh=>hh o rfl,λhh o' X=>by grind⟩;rw[e];unfold Zgr;grind
    have p:Apart (Ge c) k a<->(∀j,j<k->∀o,(Ge c)[j]?=some o->¬Zgr o a):=⟨λhh j f o d=>hh j o f d,λhh j o f d=>hh j f o d⟩;by_cases H:Zlb c a
    ·rw[Uc (ZR H),i]
     constructor
     ·intro hh;rw[Xr (p.1 hh.2)]
     ·intro hh;rw[Y7 (λy=>hh ⟨H,p.2 y⟩)]
    ·rw[Ue (by rw[ZT H];simp)]
     grind)
   (λH=>by
    have s:=ZmY c h (λa D=>by
     obtain ⟨k,m⟩:=UA.1 D;exact (H k a m).1.kind)
    have G:atI (ZfH (Ge c)) (1:Int)=some (((Ge c).countP (λa=>decide (K9 a=((1:Nat):Int))):Nat):Int):=Qt (by omega) (Zdp _ (by omega));have u:atI (ZfH (Ge c)) (2:Int)=some (((Ge c).countP (λa=>decide (K9 a=((2:Nat):Int))):Nat):Int):=Qt (by omega) (Zdp _ (by omega));have w:atI (ZfH (Ge c)) (3:Int)=some (((Ge c).countP (λa=>decide (K9 a=((3:Nat):Int))):Nat):Int):=Qt (by omega) (Zdp _ (by omega));have c1:=Znt c 1;have c2:=Znt c 2;have O:=Znt c 3;simp only[ZeY,Ui,Uj,s,Bq,G,u,w];generalize (Ge c).countP (λa=>decide (K9 a=((1:Nat):Int)))=n1 at c1 ⊢;generalize (Ge c).countP (λa=>decide (K9 a=((2:Nat):Int)))=n at c2 ⊢;generalize (Ge c).countP (λa=>decide (K9 a=((3:Nat):Int)))=N at O ⊢;by_cases k1:GX c=1
    ·rw[Uc k1]
     exact Zmb c h g k1
    rw[Ue k1];have l:∀(b:Bool),(b=true<->ZgH c)->(some (.inr b):Option ((Int×Unit)⊕Bool))=some (.inr (tr (ZgH c))):=λb E=>by rw[Zm3 E]
    have q:ZqX c 1<->0<n1:=c1.symm;have r:ZqX c 2<->0<n:=c2.symm;have t:ZqX c 3<->0<N:=O.symm;have B:ZgH c<->(GX c=2/\ZmT (K6 c)=1/\(Gw c).length=0/\¬0<n1/\(0<n<->¬0<N))\/(GX c=3/\ZmT (K6 c)=1/\(Gw c).length=0/\0<n1/\0<n/\¬0<N):=by
     unfold ZgH
     simp_all
    grind)]
  congr 1;by_cases H:ZeM (Ge c) (λk a=>Zlb c a/\Apart (Ge c) k a)
  ·rw[Xr H];grind
  ·rw[Y7 H,ZT (λx=>H x.1)]
 ·unfold Zjp
  grind
variable {l:List α}
theorem Zt0 {s:α}:s ∉ l.take k<->∀(j:Nat) (q:α),j<k->l[j]?=some q->q≠s:=by
 constructor
 ·intro h j q b a e
  refine h (UA.2 ⟨j,?_⟩);grind
 ·intro h Q
  obtain⟨j,b⟩:=UA.1 Q;grind
theorem Zn0 (f:α->List UInt8) (l:List α):V4 (l.map f) l.length<->ZeM l (λk x=>ZaK (f x)=true/\∀(j:Nat) (q:α),j<k->l[j]?=some q->f q≠f x):=by
 constructor
 ·intro h k x Z
  have e:=(Ub.1 Z).1;obtain⟨d,H⟩:=h k (f x) e (by simp[Z]);refine⟨d,λj q b a=>Zt0.1 H j (f q) b (by simp[a])⟩
 ·intro h j s b c
  simp only[UL,Ku]at c;obtain⟨x,Z,rfl⟩:=c;obtain⟨d,H⟩:=h j x Z;refine⟨d,Zt0.2 (λi q g a=>?_)⟩;grind
def Zhv (l:List Zq):List (List UInt8):=l.map G0
def Zq1 (a:ZI):Prop:=(Gh a).length<=8/\(∀c∈Gh a,Zjp c)/\V4 (Zhv (Gh a)) (Gh a).length
theorem Zy4 {a:ZI} (h:sm VI a):sm (.sl ZgA) (Gh a):=h.1
theorem JA {P:α->Prop}:ZeM l (λ_ x=>P x)<->∀x∈l,P x:=by
 constructor
 ·intro h x Z
  obtain⟨k,H⟩:=UA.1 Z;exact h k x H
 ·intro h k x H
  grind
theorem Zef:sel P (tr Q) false=tr (P/\Q):=by
 by_cases h:P
 ·rw[Xr h];grind
 ·rw[Y7 h,ZT (λq=>h q.1)]
variable (a:ZI)
theorem ZlM (h:sm VI a):Zfb a=some (tr (Zq1 a)):=by
 have H:=Zy4 h;have s:=ZK H;unfold Zfb;have:=ZhV (l:=Gh a) (ρ:=Bool) (λk=>((Zhv (Gh a)).take k,(k:Int),())) (λ_ c=>Zjp c) (step:=λv=>VQ a v.1 v.2.1) (bad:=false) (good:=tr ((Gh a).length<=8/\V4 (Zhv (Gh a)) (Gh a).length))
  (λk c Z f _=>by
   have W:(Zhv (Gh a))[k]?=some (G0 c):=by simp[Zhv,Z]
   simp only[VQ,show(k:Int)<((Gh a).length:Int)from by omega,Uk,Zv,Z,Bq,ZoK c (Zg1 H Z)];rw[Zk (by grind),XF W,Xd];constructor
   ·intro hh;rw[Uc (ZR hh)]
   ·intro hh;rw[Ue (by rw[ZT hh];simp)])
  (λd=>by
   have e:(Zhv (Gh a)).take (Gh a).length=Zhv (Gh a):=by rw[show(Gh a).length=(Zhv (Gh a)).length by simp[Zhv],Ur]
   have n:(Zhv (Gh a)).length=(Gh a).length:=by simp[Zhv]
   simp only[VQ,Ui,Uj,e];by_cases b:(Gh a).length<=8
   ·rw[Qe,VK _ (by rw[n];omega),Bq,n]
    grind
   ·rw[Qu,ZT (λq=>b q.1)])
 refine(show Zt (λv=>VQ a v.1 v.2.1) (([]:List (List UInt8)),(0:Int),())=_ from this).trans ?_;rw[Zef];congr 1;refine Xj ?_;rw[JA];exact⟨λq=>⟨q.2.1,q.1,q.2.2⟩,λq=>⟨q.2.1,q.1,q.2.2⟩⟩
variable {f:α->List UInt8}
theorem Zj2 {x:α} (c:k<=1048576) (H:k<=l.length) {step:Int×Unit->Option ((Int×Unit)⊕ρ)}
  (s:∀(j:Nat) (y:α),j<k->l[j]?=some y->step ((j:Int),())=some (if f y=f x then .inr bad else .inl (Wq ((j:Int)+1),())))
  (Z:step ((k:Int),())=some (.inr good)):Zt step ((0:Int),())=some (sel (∀(j:Nat) (q:α),j<k->l[j]?=some q->f q≠f x) good bad):=by
 rw[ZnX k (by omega) (λj=>∀ q,l[j]?=some q->f q≠f x) (bad:=bad) (good:=good) (λj b=>by
  grind) (λ_=>Z)]
 congr 1;have e:(∀j,j<k->∀q,l[j]?=some q->f q≠f x)<->(∀(j:Nat) (q:α),j<k->l[j]?=some q->f q≠f x):=⟨λh j q b a=>h j b q a,λh j b q a=>h j q b a⟩;rw[propext e]
theorem Zmc (h:sm VI a):Zfg a=some (tr (Zq1 a)):=by
 have b:=Zy4 h;have s:=ZK b;unfold Zfg;rw[QF (YV b) (λk c=>Zjp c/\∀ (j:Nat) (q:Zq),j<k->(Gh a)[j]?=some q->G0 q≠G0 c) (bad:=false) (good:=tr ((Gh a).length<=8))
  (λk c Z i _=>by
   simp only[ZcI,show(k:Int)<((Gh a).length:Int)from by omega,Uk,Zv,Z,Bq,ZoW c (Zg1 b Z)];by_cases H:Zjp c
   ·rw[Uc (ZR H),Zj2 (f:=G0) (l:=Gh a) (x:=c) (k:=k) (by omega) (by omega) (bad:=.inr false) (good:=.inl (Wq ((k:Int)+1),()))
     (λj y g e=>by
      simp only[ZcH,show (j:Int)<(k:Int) from by omega,Uk,Zv,e,Bq];split<;>rfl)
     (by simp only[ZcH,Ui,Uj])]
    constructor
    ·intro hh;rw[Xr hh.2]
    ·intro hh;rw[Y7 (λq=>hh ⟨H,q⟩)]
   ·rw[Ue (by rw[ZT H];simp)]
    grind)
  (λ_=>by
   simp only[ZcI,Ui,Uj];congr 2;exact (Zm3 (by grind)).symm)]
 rw[Zef];congr 1;refine Xj ?_;unfold Zq1;rw[Zhv,Zn0,<-JA];constructor
 ·rintro⟨q,n⟩
  exact⟨n,λk x Z=>(q k x Z).1,λk x Z=>⟨(q k x Z).1.1,(q k x Z).2⟩⟩
 ·rintro⟨n,Q,d⟩
  exact⟨λk x Z=>⟨Q k x Z,(d k x Z).2⟩,n⟩
theorem ZfJ (l:List (List UInt8)) (a:l.length<=1048576) (T:∀s∈l,s.length<=4611686018427387904):ZcB l=some (tr (V4 l l.length)):=by
 unfold ZcB;rw[QF (show Len l by show l.length<=4611686018427387904;omega) (λk s=>ZaK s=true/\∀ (j:Nat) (q:List UInt8),j<k->l[j]?=some q->id q≠id s) (bad:=false) (good:=true)
  (λk s Z H _=>by
   simp only[Zdz,show(k:Int)<(l.length:Int)from by omega,Uk,Zv,Z,Bq,Zcf s (T s (Ud Z))];by_cases h:ZaK s=true
   ·rw[Uc h,Zj2 (f:=id) (l:=l) (x:=s) (k:=k) (by omega) (by omega) (bad:=.inr false) (good:=.inl (Wq ((k:Int)+1),()))
     (λj y b e=>by
      simp only[Zdy,show (j:Int)<(k:Int) from by omega,Uk,Zv,e,Bq,id];split<;>rfl)
     (by simp only[Zdy,Ui,Uj])]
    constructor
    ·intro hh;rw[Xr hh.2]
    ·intro hh;rw[Y7 (λq=>hh ⟨h,q⟩)]
   grind)
  (λ_=>by simp only[Zdz,Ui,Uj]),Zhz]
 congr 1;refine Xj ?_;have:=Zn0 id l
 simp_all
def Zgn (d:Ze):List (List UInt8):=(K4 d).map Hb
def Zec (d:Ze):List (List UInt8):=(Gk d).map Hc
def Zkm (d:Ze):Prop:=(K4 d).length<=14/\(Gp d).length<=30/\(Gk d).length<=8/\V4 (Zgn d) (Zgn d).length/\V4 (Gp d) (Gp d).length/\V4 (Zec d) (Zec d).length
theorem gather (a:l.length<=1048576) (f:α->List UInt8) {step:List (List UInt8)×Int×Unit->Option ((List (List UInt8)×Int×Unit)⊕ρ)}
  (q:∀(k:Nat) (x:α) (o:List (List UInt8)),l[k]?=some x->(k:Int)<(l.length:Int)->o.length=k->step (o,(k:Int),())=Zw ((o.length+[f x].length)*16<=140737488355328) (some (.inl (o++[f x],Wq ((k:Int)+1),()))))
  (Z:step (l.map f,(l.length:Int),())=some (.inr good)):Zt step (([]:List (List UInt8)),(0:Int),())=some good:=by
 refine(show Zt step (([]:List (List UInt8)),(0:Int),())=some good from Za1 (l:=l) (λk=>((l.map f).take k,(k:Int),())) (λk x Z H=>?_) ?_)
 ·have W:(l.map f)[k]?=some (f x):=by simp[Z]
  have h:((l.map f).take k).length=k:=by grind
  rw[q k x _ Z (by omega) h,Zk (by grind),XF W,Xd]
 ·have n:(l.map f).take l.length=l.map f:=by rw[show l.length=(l.map f).length by simp,Ur]
  grind
theorem Zjh {d:Ze} (h:sm Qv d):sm (.sl Zfz) (K4 d)/\sm (.sl Zvf) (Gk d)/\sm (.sl .str) (Gp d):=by
 refine⟨?_,?_,?_⟩
 ·first|exact h.1|exact h.2.1|exact h.2.2.1|exact h.2.2.2.1
 ·first|exact h.1|exact h.2.1|exact h.2.2.1|exact h.2.2.2.1
 ·first|exact h.1|exact h.2.1|exact h.2.2.1|exact h.2.2.2.1
theorem ZpC {x:Zp} (h:sm Zfz x):sm .str (Hb x)/\sm (.sl (.int .i64)) (Gu x):=by
 refine⟨?_,?_⟩
 ·first|exact h.1|exact h.2.1|exact h.2.2.1|exact h.2.2.2.1
 ·first|exact h.1|exact h.2.1|exact h.2.2.1|exact h.2.2.2.1
theorem ZCz {x:Y8} (h:sm Zvf x):sm .str (Hc x):=by
 first|exact h.1|exact h.2.1|exact h.2.2.1|exact h.2.2.2.1
variable (d:Ze)
theorem ZhM (h:sm Qv d):Zal d=some (tr (Zkm d)):=by
 obtain⟨j,m,n⟩:=Zjh h;have s1:=ZK j;have s2:=ZK m;have s3:=ZK n;unfold Zal;refine gather (l:=K4 d) s1 Hb (λk x o Z H p=>?_) ?_
 ·simp only[JG,H,Uk,Zv,Z,Bq]
 simp only[JG,Ui,Uj];have i:(Zgn d).length=(K4 d).length:=by simp[Zgn]
 have g:(Zec d).length=(Gk d).length:=by simp[Zec]
 refine gather (l:=Gk d) s2 Hc (λk x o Z H p=>?_) ?_
 ·simp only[JF,H,Uk,Zv,Z,Bq]
 simp only[JF,Ui,Uj];rw[show List.map Hc (Gk d)=Zec d from rfl,show List.map Hb (K4 d)=Zgn d from rfl];simp only[i,g,VK _ (show(Zgn d).length<=4611686018427387904 by omega),VK _ (show(Zec d).length<=4611686018427387904 by omega),VK _ (show(Gp d).length<=4611686018427387904 by omega),Bq];unfold Zkm;rw[i,g];by_cases a:(K4 d).length<=14
 ·rw[Qe]
  by_cases b:(Gp d).length<=30
  ·rw[Qe]
   by_cases c:(Gk d).length<=8
   ·rw[Qe]
    by_cases e:V4 (Zgn d) (K4 d).length
    ·rw[Uc (ZR e)]
     by_cases f:V4 (Gp d) (Gp d).length
     ·rw[Uc (ZR f)]
      grind
     ·rw[Ue (by rw[ZT f];simp),ZT (λq=>f q.2.2.2.2.1)]
    ·rw[Ue (by rw[ZT e];simp),ZT (λq=>e q.2.2.2.1)]
   ·rw[Qu,ZT (λq=>c q.2.2.1)]
  ·rw[Qu,ZT (λq=>b q.2.1)]
 ·rw[Qu,ZT (λq=>a q.1)]
def ZmC (n:Nat) (s:List Int):List Int:=(List.range n).map (λ(j:Nat)=>((s.countP (λx=>decide (x=(j:Int))):Nat):Int))
theorem Zkw (n:Nat) (s:List Int):(ZmC n s).length=n:=by simp[ZmC]
theorem ZpZ (n:Nat):ZmC n []=List.replicate n 0:=by
 apply UI;intro i;simp only[ZmC,List.countP_nil,UL,Kc,Kf];grind
variable {s:List Int}
theorem Zkv (h:j<n:=by omega):(ZmC n s)[j]?=some ((s.countP (λx=>decide (x=(j:Int))):Nat):Int):=by
 simp[ZmC,h]
variable {x:Int}
theorem Zz1 (k:0<=x) (d:x<(n:Int)):atI (ZmC n s) x=some ((s.countP (λy=>decide (y=x)):Nat):Int):=by
 refine Qt k ?_;rw[Zkv,show(x.toNat:Int)=x by omega]
theorem Zx9 (k:0<=x) (d:x<(n:Int)):List.set (ZmC n s) (Int.toNat x) (((s.countP (λy=>decide (y=x)):Nat):Int)+1)=ZmC n (s++[x]):=by
 apply UI;intro i;rw[UX];by_cases l:i<n
 ·rw[Zkv l,Zkv l,KA,Zkw]
  grind
 ·have d:(ZmC n s)[i]?=none:=by rw[Uv];rw[Zkw];omega
  have f:(ZmC n (s++[x]))[i]?=none:=by rw[Uv];rw[Zkw];omega
  grind
theorem ZiB (k:0<=x) (d:x<(n:Int)) (q:s.length<=1048576000) (F:List Int->Option τ) :
  ((atI (ZmC n s) x).bind λy=>F (List.set (ZmC n s) (Int.toNat x) (Wq (y+1))))=F (ZmC n (s++[x])):=by
 have f:=KV (p:=λy=>decide (y=x)) (l:=s);rw[Zz1 k d,Bq,QP,Zx9 k d]
def Zb6 (x:Zp):Int:=(Gu x).getLastD 0
def Zq0 (d:Ze) (n:Int):Prop:=0<=n/\n<=((Gp d).length:Int)-1
def Zig (a:ZI) (d:Ze) (x:Zp):Prop :=
 (0<=GJ x/\GJ x<=((Gh a).length:Int)-1)/\(∃c,(Gh a)[(GJ x).toNat]?=some c/\(Gu x).length=(K6 c).length)/\∀n∈Gu x,Zq0 d n
def Zjs (d:Ze) (p:Y8):Prop:=(1<=GD p/\GD p<=2)/\Zq0 d (GM p)
def ZDj (d:Ze):List Int:=(K4 d).map Zb6++((Gk d).filter (λp=>decide (GD p=1))).map GM
def Zkn (d:Ze):Prop:=∀x∈ZmC (Gp d).length (ZDj d),x=1
def Zbx (a:ZI) (d:Ze):Prop:=Zq1 a/\Zkm d/\(∀x∈K4 d,Zig a d x)/\(∀p∈Gk d,Zjs d p)/\Zkn d
theorem Zig.last {a:ZI} {d:Ze} {x:Zp} (h:Zig a d x) (l:Zq1 a) (T:(Gu x).length<=1048576):atI (Gu x) (Wq (((Gu x).length:Int)-1))=some (Zb6 x)/\Zq0 d (Zb6 x):=by
 obtain⟨_,⟨c,q,W⟩,H⟩:=h;have f:2<=(K6 c).length:=(l.2.1 c (Ud q)).2.1.1;unfold Zb6;cases n:Gu x with
 |nil=>grind
 |cons y r =>
  rw[n]at T;rw[Zhm T (by simp),Zv];grind
theorem ZfP (n:Int) (h:sm Qv d):Vm d n=some (tr (Zq0 d n)):=by
 have s3:=ZK (Zjh h).2.2;unfold Vm;rw[show Zd7 (Gp d)=some ((Gp d).length:Int)from rfl,Bq,QP];exact Zdj (Qs _ _ _)
theorem Zha (a:ZI) (x:Zp) (L:sm Qv d) (m:sm VI a) (Z:sm Zfz x):JB d a x=some (tr (Zig a d x)):=by
 have s:=ZK (Zy4 m);unfold JB;rw[show Zb0 (Gh a)=some ((Gh a).length:Int)from rfl,Bq,QP];refine ZeO (P:=(0<=GJ x/\GJ x<=((Gh a).length:Int)-1)/\Zig a d x) (YO (Qs _ _ _) (λw=>?_)) ⟨λq=>q.2,λq=>⟨q.1,q⟩⟩;obtain⟨c,h,y⟩:=Zjv w.1 (show GJ x<((Gh a).length:Int) by omega);rw[h,Bq];refine ZeO (P:=((Gu x).length:Int)=((K6 c).length:Int)/\∀n∈Gu x,Zq0 d n) (Qp (λl=>?_)) ?_
 ·rw[QI (YV (ZpC Z).2) (λn=>!tr (Zq0 d n)) (λn _=>by
   unfold Qq;show (Vm d n).bind _=_;rw[ZfP d n L];rfl),Bq]
  refine ZbT ?_;rw[UO,List.any_eq_false];constructor
  ·intro q n W
   have:=q n W;simp only[UO,Bool.not_eq_false]at this;exact(Xf _).1 this
  ·intro q n W
   simp only[UO,Bool.not_eq_false];exact ZR (q n W)
 ·constructor
  ·rintro⟨b,Q⟩;exact⟨w,⟨c,y,by omega⟩,Q⟩
  ·rintro⟨_,⟨J,b,Q⟩,e⟩
   grind
theorem Zty {d:Ze} {p:Y8} (Z:(Gk d)[k]?=some p) (s:List Int) :
  s++(((Gk d).take (k+1)).filter (λp=>decide (GD p=1))).map GM=(if GD p=1 then(s++(((Gk d).take k).filter (λp=>decide (GD p=1))).map GM)++[GM p]else s++(((Gk d).take k).filter (λp=>decide (GD p=1))).map GM):=by
 rw[XF Z,List.filter_append,Kp];grind
theorem Zv7 {d:Ze} (k m:Nat):(((K4 d).take m).map Zb6++(((Gk d).take k).filter (λp=>decide (GD p=1))).map GM).length<=(K4 d).length+(Gk d).length:=by
 grind
theorem ZmP (m:sm VI a) (L:sm Qv d):ZfW a d=some (tr (Zbx a d)):=by
 obtain⟨H,c,g⟩:=Zjh L;have s1:=ZK H;have s2:=ZK c;have s3:=ZK g;unfold ZfW;refine ZeO (P:=Zq1 a/\Zkm d/\(ZeM (K4 d) (λ_ x=>Zig a d x)/\(ZeM (Gk d) (λ_ p=>Zjs d p)/\Zkn d))) (YO (ZlM a m) (λe=>YO (ZhM d L) (λs=>?_))) (by rw[JA,JA];exact KT);rw[QQ,QQ,QQ,QQ];have:=ZhV (l:=K4 d) (ρ:=Bool) (λk=>((k:Int),ZmC (Gp d).length (((K4 d).take k).map Zb6),())) (λ_ x=>Zig a d x) (step:=λv=>ZaV a d v.1 v.2.1) (bad:=false) (good:=tr (ZeM (Gk d) (λ_ p=>Zjs d p)/\Zkn d))
  (λk x Z i _=>by
   have G:=Zg1 H Z;simp only[ZaV,show(k:Int)<((K4 d).length:Int)from by omega,Uk,Zv,Z,Bq,Zha d a x L m G];constructor
   ·intro hh
    obtain⟨e1,f⟩:=hh.last e (ZK (ZpC G).2);rw[Uc (ZR hh),e1,Bq,ZiB f.1 (by have:=f.2;omega) (by grind) (F:=λo=>some (Sum.inl (Wq ((k:Int)+1),o,()))),XF Z,Kp,Xd];rfl
   ·intro hh;rw[Ue (by rw[ZT hh];simp)])
  (λr=>by
   simp only[ZaV,Ui,Uj,Ur];have:=ZhV (l:=Gk d) (ρ:=Int×List Int×Unit⊕Bool) (λk=>((k:Int),ZmC (Gp d).length ((K4 d).map Zb6++(((Gk d).take k).filter (λp=>decide (GD p=1))).map GM),())) (λ_ p=>Zjs d p) (step:=λv=>Jl d v.1 v.2.1) (bad:=.inr false) (good:=.inr (tr (Zkn d)))
    (λk p Z i _=>by
     have j:=Zv7 (d:=d) k (K4 d).length;rw[Ur]at j;simp only[Jl,show(k:Int)<((Gk d).length:Int)from by omega,Uk,Zv,Z,Bq,ZfP d _ L,Zty Z];by_cases D:GD p=1
     ·simp only[D,Uk]
      constructor
      ·intro hh
       rw[Uc (ZR hh.2),ZiB hh.2.1 (by have:=hh.2.2;omega) (by omega) (F:=λo=>some (Sum.inl (Wq ((k:Int)+1),o,()))),Xd]
      ·intro hh
       rw[Ue (by rw[ZT (λq=>hh ⟨by omega,q⟩)];simp)]
     ·simp only[D,Uj]
      by_cases b:GD p=2
      ·simp only[b,Uk]
       constructor
       ·intro hh
        rw[Uc (ZR hh.2),Xd]
       ·intro hh
        rw[Ue (by rw[ZT (λq=>hh ⟨by omega,q⟩)];simp)]
      ·simp only[b,Uj]
       exact ⟨λhh=>by have:=hh.1;omega,λ_=>trivial⟩)
    (λ_=>by
     simp only[Jl,Ui,Uj,Ur];rw[Js (show Len _ by show List.length _<=_;rw[Zkw];omega) (λn=>!decide (n=1)) (λn _=>rfl),Bq];congr 3;refine (Zm3 ?_).symm;rw[UO,List.any_eq_false];simp only[UO,Bool.not_eq_false,Ul,Kr,Classical.not_not];exact KT)
   refine(show Zt (λv=>Jl d v.1 v.2.1) ((0:Int),ZmC (Gp d).length ((K4 d).map Zb6),())=_ from(by simpa using this)).trans ?_;by_cases h:ZeM (Gk d) (λ_ p=>Zjs d p)
   ·rw[Xr h];grind
   ·rw[Y7 h,ZT (λq=>h q.1)])
 rw[Zef]at this;refine Eq.trans ?_ this;rw[Ki,Hx,ZpZ];rfl
theorem ZmZ (m:sm VI a) (L:sm Qv d):Zf3 a d=some (tr (ZeM (K4 d) (λ_ x=>Zig a d x)/\ZeM (Gk d) (λ_ p=>Zjs d p))):=by
 obtain ⟨H,f,i⟩:=Zjh L;have s1:=ZK H;have s2:=ZK f;have s3:=ZK i;have s:=ZK (Zy4 m);have e1:Wq (((Gp d).length:Int)-1)=((Gp d).length:Int)-1:=QP;have e:Wq (((Gh a).length:Int)-1)=((Gh a).length:Int)-1:=QP;unfold Zf3;rw[QF (YV H) (λ_ x=>Zig a d x) (bad:=false) (good:=tr (ZeM (Gk d) (λ_ p=>Zjs d p)))
  (λk x Z l _=>by
   have G:=Zg1 H Z;simp only[ZdC,show(k:Int)<((K4 d).length:Int)from by omega,Uk,Zv,Z,Bq,QT,e];by_cases h:0<=GJ x/\GJ x<=((Gh a).length:Int)-1
   ·obtain⟨c,b,y⟩:=Zjv h.1 (show GJ x<((Gh a).length:Int) by omega)
    rw[Uc (ZR h),b,Bq];by_cases g:((Gu x).length:Int)=((K6 c).length:Int)
    ·rw[Uc g,QF (YV (ZpC G).2) (λ_ n=>Zq0 d n) (bad:=.inr false) (good:=.inl (Wq ((k:Int)+1),()))
      (λj n W o _=>by
       simp only[ZdA,show(j:Int)<((Gu x).length:Int)from by omega,Uk,Zv,W,Bq,QT,e1];constructor
       ·intro hh;exact Uc (ZR hh)
       ·intro hh;exact Ue (λq=>hh ((Xf _).1 q)))
      (λ_=>by simp only[ZdA,Ui,Uj])]
     constructor
     ·intro hh;rw[Xr (JA.2 hh.2.2)]
     ·intro hh;rw[Y7 (λq=>hh ⟨h,⟨c,y,by omega⟩,JA.1 q⟩)]
    ·rw[Ue g]
     refine⟨λhh=>?_,λ_=>rfl⟩;obtain⟨_,⟨J,Q,r⟩,_⟩:=hh;grind
   ·rw[Ue (by rw[ZT h];simp)]
    exact ⟨λhh=>absurd hh.1 h,λ_=>rfl⟩)
  (λ_=>by
   simp only[ZdC,Ui,Uj];rw[QF (YV f) (λ_ p=>Zjs d p) (bad:=.inr false) (good:=.inr true)
    (λk p Z l _=>by
     simp only[ZdB,show(k:Int)<((Gk d).length:Int)from by omega,Uk,Zv,Z,Bq,QT,e1];by_cases h:1<=GD p/\GD p<=2
     ·rw[Uc (ZR h)]
      constructor
      ·intro hh;exact Uc (ZR hh.2)
      ·intro hh;exact Ue (λq=>hh ⟨h,(Xf _).1 q⟩)
     ·rw[Ue (by rw[ZT h];simp)]
      exact ⟨λhh=>absurd hh.1 h,λ_=>rfl⟩)
    (λ_=>by simp only[ZdB,Ui,Uj])]
   congr 1;by_cases hh:ZeM (Gk d) (λ_ p=>Zjs d p)
   ·rw[Xr hh,ZR hh]
   ·rw[Y7 hh,ZT hh])]
 rw[Zef]
theorem Zt2 (h:∀x∈l,(f x).length<=4611686018427387904):∀s∈l.map f,s.length<=4611686018427387904:=by
 grind
theorem ZmX (m:sm VI a) (L:sm Qv d):Zf1 a d=some (tr (Zbx a d)):=by
 obtain⟨b,c,g⟩:=Zjh L;have s1:=ZK b;have s2:=ZK c;have s3:=ZK g;unfold Zf1;refine ZeO (YO (Zmc a m) (λj=>Zgf (λa1=>Zgf (λA=>Zgf (λw=>YO (ZmZ a d m L) (λi=>?_))))))
  (P:=Zq1 a/\¬(14:Int)<((K4 d).length:Int)/\¬(30:Int)<((Gp d).length:Int)/\¬(8:Int)<((Gk d).length:Int)/\(ZeM (K4 d) (λ_ x=>Zig a d x)/\ZeM (Gk d) (λ_ p=>Zjs d p))/\(V4 (Zgn d) (Zgn d).length/\V4 (Zec d) (Zec d).length/\V4 (Gp d) (Gp d).length)/\Zkn d) ?_
 ·have y:(Zgn d).length=(K4 d).length:=by simp[Zgn]
  have z:(Zec d).length=(Gk d).length:=by simp[Zec]
  refine gather (l:=K4 d) s1 Hb (λk x o Z H t=>?_) ?_
  ·simp only[Zdw,H,Uk,Zv,Z,Bq]
  simp only[Zdw,Ui,Uj];refine gather (l:=Gk d) s2 Hc (λk x o Z H t=>?_) ?_
  ·simp only[Zdv,H,Uk,Zv,Z,Bq]
  simp only[Zdv,Ui,Uj];rw[show List.map Hc (Gk d)=Zec d from rfl,show List.map Hb (K4 d)=Zgn d from rfl];simp only[ZfJ (Zgn d) (by omega) (Zt2 (λx Z=>Zgz (ZpC (Zoj b Z)).1)),ZfJ (Zec d) (by omega) (Zt2 (λx Z=>Zgz (ZCz (Zoj c Z)))),ZfJ (Gp d) (by omega) (λs u=>Zgz (Zoj g u)),Bq];by_cases n1:V4 (Zgn d) (Zgn d).length
  ·rw[Uc (ZR n1)]
   by_cases n:V4 (Zec d) (Zec d).length
   ·rw[Uc (ZR n)]
    by_cases N:V4 (Gp d) (Gp d).length
    ·rw[Uc (ZR N),QQ,QQ,QQ,QQ]
     have:=Za1 (l:=K4 d) (ρ:=(List (List UInt8))×Int×Unit⊕((List (List UInt8))×Int×Unit⊕Bool)) (λk=>((k:Int),ZmC (Gp d).length (((K4 d).take k).map Zb6),())) (step:=λv=>Ju d v.1 v.2.1) (good:=.inr (.inr (tr (Zkn d))))
      (λk x Z H=>by
       have G:=Zg1 b Z;obtain ⟨e1,f⟩:=(i.1 k x Z).last j (ZK (ZpC G).2);simp only[Ju,show (k:Int)<((K4 d).length:Int) from by omega,Uk,Zv,Z,Bq];rw[e1,Bq,ZiB f.1 (by have:=f.2;omega) (by grind) (F:=λo=>some (Sum.inl (Wq ((k:Int)+1),o,()))),XF Z,Kp,Xd];rfl)
      (by
       simp only[Ju,Ui,Uj,Ur];have:=Za1 (l:=Gk d) (ρ:=Int×List Int×Unit⊕((List (List UInt8))×Int×Unit⊕((List (List UInt8))×Int×Unit⊕Bool))) (λk=>((k:Int),ZmC (Gp d).length ((K4 d).map Zb6++(((Gk d).take k).filter (λp=>decide (GD p=1))).map GM),())) (step:=λv=>Jt d v.1 v.2.1) (good:=.inr (.inr (.inr (tr (Zkn d)))))
        (λk p Z H=>by
         have r:=Zv7 (d:=d) k (K4 d).length;rw[Ur]at r;have h:=i.2 k p Z;simp only[Jt,show(k:Int)<((Gk d).length:Int)from by omega,Uk,Zv,Z,Bq,Zty Z];by_cases D:GD p=1
         ·simp only[D,Uk]
          rw[ZiB h.2.1 (by have:=h.2.2;omega) (by omega) (F:=λo=>some (Sum.inl (Wq ((k:Int)+1),o,()))),Xd]
         ·simp only[D,Uj]
          rw[Xd])
        (by
         simp only[Jt,Ui,Uj,Ur];rw[QF (l:=ZmC (Gp d).length ((K4 d).map Zb6++((Gk d).filter (λp=>decide (GD p=1))).map GM)) (show List.length _<=_ by rw[Zkw];omega) (λ_ x=>x=1) (bad:=.inr (.inr (.inr (.inr false)))) (good:=.inr (.inr (.inr (.inr true))))
          (λk x Z H _=>by
           simp only[Zdu,show (k:Int)<((ZmC (Gp d).length ((K4 d).map Zb6++((Gk d).filter (λp=>decide (GD p=1))).map GM)).length:Int) from by omega,Uk,Zv,Z,Bq];grind)
          (λ_=>by simp only[Zdu,Ui,Uj])]
         congr 1;have e:ZeM (ZmC (Gp d).length ((K4 d).map Zb6++((Gk d).filter (λp=>decide (GD p=1))).map GM)) (λ_ x=>x=1)<->Zkn d:=by
          rw[JA];exact KT
         by_cases hh:Zkn d
         ·rw[Xr (e.2 hh),ZR hh]
         ·rw[Y7 (λq=>hh (e.1 q)),ZT hh])
       grind)
     rw[Ki,Hx,ZpZ]at this;grind
    ·rw[Ue (by rw[ZT N];simp),ZT (λq=>N q.1.2.2)]
   ·rw[Ue (by rw[ZT n];simp),ZT (λq=>n q.1.2.1)]
  ·rw[Ue (by rw[ZT n1];simp),ZT (λq=>n1 q.1.1)]
 ·unfold Zbx Zkm
  rw[JA,JA];grind
def cat {α β:Type} (f:Nat->α->List β):Nat->List α->List β
 |_,[]=>[]
 |k,x::r=>f k x++cat f (k+1) r
theorem Zi8 {α β:Type} (f:Nat->α->List β):∀(l r:List α) (m:Nat),cat f m (l++r)=cat f m l++cat f (m+l.length) r
 |[],r,m=>by simp[cat]
 |x::l,r,m=>by
  simp only[U0,cat,Uf,Zi8 f l r,Un];grind
theorem ZhI {f:Nat->α->List β} {x:α} (Z:l[k]?=some x):cat f 0 (l.take (k+1))=cat f 0 (l.take k)++f k x:=by
 have H:=(Ub.1 Z).1;rw[XF Z,Zi8];simp only[cat,Uw,Uo,Um];grind
theorem XZ {α β:Type} {f:Nat->α->List β} {y:β}:∀{l:List α} {m:Nat},y∈cat f m l<->∃(k:Nat) (x:α),l[k]?=some x/\y∈f (m+k) x
 |[],m=>by simp[cat]
 |z::r,m=>by
  simp only[cat,Uu,XZ (l:=r)];constructor
  ·rintro(h|⟨k,x,d,H⟩)
   ·exact⟨0,z,rfl,h⟩
   ·exact⟨k+1,x,by simpa using d,by grind⟩
  grind
theorem VJ {α β:Type} {f:Nat->α->List β} {c:Nat}:∀{l:List α} {m:Nat},(∀k,∀x∈l,(f k x).length<=c)->(cat f m l).length<=c*l.length
 |[],m,_=>by simp[cat]
 |z::r,m,h=>by
  simp only[cat,Uh,Uf];have d:=h m z (by simp);have H:=VJ (f:=f) (l:=r) (m:=m+1) (λk x Z=>h k x (by simp[Z]));grind
theorem Xx (f:Nat->α->List β) (a:List β) {step:List β×Int×Unit->Option ((List β×Int×Unit)⊕ρ)}
  (q:∀(k:Nat) (x:α),l[k]?=some x->k<l.length->step (a++cat f 0 (l.take k),(k:Int),())=some (.inl ((a++cat f 0 (l.take k))++f k x,((k+1:Nat):Int),())))
  (Z:step (a++cat f 0 l,(l.length:Int),())=some (.inr good)):Zt step (a,(0:Int),())=some good:=by
 have:=Za1 (l:=l) (ρ:=ρ) (λk=>(a++cat f 0 (l.take k),(k:Int),())) (step:=step) (good:=good) (λk x Z H=>by
  rw[q k x Z H,ZhI Z,Un]) (by grind)
 simpa[cat]using this
abbrev Pl:=Int×Int×Int×Bool×Unit
def Zah (i:Nat) (x:Zp):List Pl:=cat (λj n=>[((i:Int),(j:Int),n,decide ((j:Int)=Wq (((Gu x).length:Int)-1)),())]) 0 (Gu x)
def Zgq (j:Nat) (p:Y8):List Pl:=[((-1:Int),(j:Int),GM p,decide (GD p=1),())]
def ZB (d:Ze):List Pl:=cat Zah 0 (K4 d)++cat Zgq 0 (Gk d)
theorem ZuI (i:Nat) (x:Zp):(Zah i x).length<=(Gu x).length:=by
 have:=VJ (f:=λj n=>[((i:Int),(j:Int),n,decide ((j:Int)=Wq (((Gu x).length:Int)-1)),())]) (c:=1) (l:=Gu x) (m:=0) (λ_ _ _=>by simp);simpa[Zah]using this
structure Few (d:Ze):Prop where
 insts:(K4 d).length<=14
 ports:(Gk d).length<=8
 nets:∀x∈K4 d,(Gu x).length<=5
variable {a:ZI} {d:Ze}
theorem Zbx.few (h:Zbx a d):Few d:=by
 refine⟨h.2.1.1,h.2.1.2.2.1,λx Z=>?_⟩;obtain⟨_,⟨c,q,W⟩,_⟩:=h.2.2.1 x Z;have:=(h.1.2.1 c (Ud q)).2.1.2.1;omega
theorem ZdK (h:Few d) (k:Nat):(cat Zah 0 ((K4 d).take k)).length<=70:=by
 have:=VJ (f:=Zah) (c:=5) (l:=(K4 d).take k) (m:=0) (λi x Z=>by
  have H:=ZuI i x;have a:=h.nets x (List.mem_of_mem_take Z);omega)
 have H:=h.insts;grind
theorem ZiA (h:Few d) (k:Nat):(cat Zgq 0 ((Gk d).take k)).length<=8:=by
 have:=VJ (f:=Zgq) (c:=1) (l:=(Gk d).take k) (m:=0) (λi x Z=>by simp[Zgq]);have H:=h.ports;grind
theorem YT (h:Few d):(ZB d).length<=78:=by
 have H:=ZdK h (K4 d).length;have f:=ZiA h (Gk d).length;rw[Ur]at H f;unfold ZB;grind
variable (d:Ze)
theorem Xm (h:Few d):Qh d=some (ZB d):=by
 have H:=h.insts;have a:=h.ports;unfold Qh;refine Xx (l:=K4 d) Zah [] (λk x Z e=>?_) ?_
 ·have W:=h.nets x (Ud Z)
  have q:=ZdK h k;simp only[Uq,Zaw,show(k:Int)<((K4 d).length:Int)from by omega,Uk,Zv,Z,Bq];refine Xx (l:=Gu x) (λj n=>[((k:Int),(j:Int),n,decide ((j:Int)=Wq (((Gu x).length:Int)-1)),())]) _ (λj n b u=>?_) ?_
  ·have R:=VJ (f:=λj n=>[((k:Int),(j:Int),n,decide ((j:Int)=Wq (((Gu x).length:Int)-1)),())]) (c:=1) (l:=(Gu x).take j) (m:=0) (λ_ _ _=>by simp)
   rw[Uo]at R;simp only[Zau,show(j:Int)<((Gu x).length:Int)from by omega,Uk,Zv,b,Bq];rw[Zk (by grind),Xd]
  ·simp only[Zau,Ui,Uj]
   rw[Xd];rfl
 ·have q:=ZdK h (K4 d).length
  rw[Ur]at q;simp only[Uq,Zaw,Ui,Uj];refine Xx (l:=Gk d) Zgq _ (λj p b u=>?_) ?_
  ·have R:=ZiA h j
   simp only[Zav,show(j:Int)<((Gk d).length:Int)from by omega,Uk,Zv,b,Bq];rw[Zk (by grind),Xd];rfl
  ·simp only[Zav,Ui,Uj];rfl
theorem Y5 (h:Few d):YU d=some (ZB d):=by
 have H:=h.insts;have a:=h.ports;unfold YU;refine Xx (l:=K4 d) Zah [] (λk x Z e=>?_) ?_
 ·have W:=h.nets x (Ud Z)
  have q:=ZdK h k;simp only[Uq,ZcN,show(k:Int)<((K4 d).length:Int)from by omega,Uk,Zv,Z,Bq];refine Xx (l:=Gu x) (λj n=>[((k:Int),(j:Int),n,decide ((j:Int)=Wq (((Gu x).length:Int)-1)),())]) _ (λj n b u=>?_) ?_
  ·have R:=VJ (f:=λj n=>[((k:Int),(j:Int),n,decide ((j:Int)=Wq (((Gu x).length:Int)-1)),())]) (c:=1) (l:=(Gu x).take j) (m:=0) (λ_ _ _=>by simp)
   rw[Uo]at R;simp only[ZcL,show(j:Int)<((Gu x).length:Int)from by omega,Uk,Zv,b,Bq];rw[Zk (by grind),Xd]
  ·simp only[ZcL,Ui,Uj]
   rw[Xd];rfl
 ·have q:=ZdK h (K4 d).length
  rw[Ur]at q;simp only[Uq,ZcN,Ui,Uj];refine Xx (l:=Gk d) Zgq _ (λj p b u=>?_) ?_
  ·have R:=ZiA h j
   simp only[ZcM,show(j:Int)<((Gk d).length:Int)from by omega,Uk,Zv,b,Bq];rw[Zk (by grind),Xd];rfl
  ·simp only[ZcM,Ui,Uj];rfl
def Zgs (net:Int) (i:Nat) (x:Pl):List Int:=if x.2.2.1=net then(if x.2.2.2.1=true then[]else[(i:Int)])else[]
def Zae (d:Ze) (net:Int):List Int:=cat (Zgs net) 0 (ZB d)
variable (net:Int)
theorem Zeg (l:List Pl) (m:Nat):(cat (Zgs net) m l).length<=l.length:=by
 have:=VJ (f:=Zgs net) (c:=1) (l:=l) (m:=m) (λi x _=>by
  unfold Zgs;grind)
 omega
theorem ZcG (h:Few d):Zct d net=some (Zae d net):=by
 have g:=YT h;unfold Zct;rw[Xm d h,Bq];refine Xx (l:=ZB d) (Zgs net) [] (λk x Z H=>?_) ?_
 ·have q:=Zeg net ((ZB d).take k) 0
  rw[Uo]at q;simp only[Uq,ZaU,show(k:Int)<((ZB d).length:Int)from by omega,Uk,Zv,Z,Bq,Zgs,Xd (show k<=1048576 by omega)];split
  ·split
   ·rw[Um]
   ·rw[Zk (by
     grind)]
  grind
 ·simp only[Uq,ZaU,Ui,Uj];rfl
theorem Zdf (h:Few d):Za4 d net=some (Zae d net):=by
 have g:=YT h;unfold Za4;rw[Y5 d h,Bq];refine Xx (l:=ZB d) (Zgs net) [] (λk x Z H=>?_) ?_
 ·have q:=Zeg net ((ZB d).take k) 0
  rw[Uo]at q;simp only[Uq,ZdD,show(k:Int)<((ZB d).length:Int)from by omega,Uk,Zv,Z,Bq,Zgs,Xd (show k<=1048576 by omega)];split
  ·split
   ·rw[Um]
   ·rw[Zk (by
     grind)]
  grind
 ·simp only[Uq,ZdD,Ui,Uj];rfl
def loads (d:Ze):List Int:=((ZB d).filter (λx=>!x.2.2.2.1)).map (λx=>x.2.2.1)
theorem Zoh (net:Int):∀(l:List Pl) (m:Nat),(cat (Zgs net) m l).length=((l.filter (λx=>!x.2.2.2.1)).map (λx=>x.2.2.1)).countP (λy=>decide (y=net))
 |[],m=>by simp[cat]
 |x::r,m=>by
  simp only[cat,Uh,Zoh net r,Zgs];grind
theorem ZrZ {w:ZC} (h:sm Zm2 w):sm (.sl (.int .i64)) (K5 w)/\sm (.sl (.int .i64)) (GC w)/\sm (.sl (.int .i64)) (GU w)/\sm (.sl (.int .i64)) (Gv w):=by
 refine⟨?_,?_,?_,?_⟩;all_goals first|exact h.1|exact h.2.1|exact h.2.2.1|exact h.2.2.2.1
variable {b:Zc}
theorem Zkc (h:sm Xi b):sm VI (GG b)/\sm Qv (K3 b)/\sm (.sl Zm2) (Gl b):=by
 refine⟨?_,?_,?_⟩;all_goals first|exact h.1|exact h.2.1|exact h.2.2.1|exact h.2.2.2.1
def Znk (w:ZC) (k:Nat) (x:Int):Prop:=(k=0->x=-1/\(GC w)[0]?=some 0)/\(0<k->0<=x/\x<=(k:Int)-1)
def Zhn (w:ZC) (s:Int):Prop :=
 (1<=(K5 w).length/\(K5 w).length<=8)/\(GC w).length=(K5 w).length/\(GU w).length=(K5 w).length/\((Gv w).length:Int)=s/\
 ZeM (K5 w) (Znk w)/\Zhj (GC w) 0 1000/\Zhj (GU w) 0 500/\Zhj (Gv w) 0 (((K5 w).length:Int)-1)
theorem Zfj (l:List Int) (o h:Int) (q:l.length<=1048576):Xy l o h=some (tr (Zhj l o h)):=by
 rw[Zcv l o h];exact ZbT (Zko _ _ _)
variable (w:ZC)
theorem Zj1 (c:sm Zm2 w) (d:1<=(K5 w).length:=by omega) (f:(GC w).length=(K5 w).length:=by omega):Zda w=some (tr (ZeM (K5 w) (Znk w))):=by
 obtain ⟨a1,a,i,j⟩:=ZrZ c;have s1:=ZK a1;unfold Zda;have E:(GC w)[0]?=some (GC w)[0]:=Ua (by omega);rw[QF (YV a1) (Znk w) (bad:=false) (good:=true)
  (λk x Z b _=>by
   simp only[Zbp,show(k:Int)<((K5 w).length:Int)from by omega,Uk,Zv,Z,Bq];unfold Znk;by_cases H:k=0
   ·subst H
    rw[Uc (by rfl),show atI (GC w) 0=some (GC w)[0]from E,E];grind
   ·rw[Qu,Qe,Qs,Bq,QP]
    constructor
    ·intro hh;rw[Uc (ZR (hh.2 (by omega)))]
    ·intro hh;rw[Ue (λq=>hh ⟨λh=>absurd h H,λ_=>(Xf _).1 q⟩)])
  (λ_=>by simp only[Zbp,Ui,Uj]),Zhz]
variable (s:Int)
theorem ZoL (c:sm Zm2 w):ZhO w s=some (tr (Zhn w s)):=by
 obtain⟨a1,a,i,j⟩:=ZrZ c;have s1:=ZK a1;have s2:=ZK a;have s3:=ZK i;have S:=ZK j;unfold ZhO;simp only[Zao,Bq,Yy (show(-9223372036854775808:Int)<=((K5 w).length:Int)-1 by omega)];refine ZeO (YO (Qs _ _ _) (λQ=>Qp (λq=>Qp (λb=>YO (Zj1 w c) (λf=>YO (Zfj _ _ _ s2) (λd=>YO (Zfj _ _ _ s3) (λe=>Qp (λl=>Zdj (Zfj _ _ _ S))))))))) ?_;unfold Zhn;grind
theorem Ztd {l:List Int} {o:Int}:Zhj l o i<->∀(k:Nat) (x:Int),l[k]?=some x->o<=x/\x<=i:=by
 unfold Zhj;constructor
 ·intro h k x Z;exact h x (Ud Z)
 ·intro h x Z
  obtain⟨k,H⟩:=UA.1 Z;exact h k x H
theorem ZoX (t:sm Zm2 w):Zh5 w s=some (tr (Zhn w s)):=by
 obtain⟨a1,o,p,A⟩:=ZrZ t;have s1:=ZK a1;have s2:=ZK o;have s3:=ZK p;have S:=ZK A;have e1:Wq (((K5 w).length:Int)-1)=((K5 w).length:Int)-1:=QP;unfold Zh5;refine ZeO (Zgf (λg=>Zgf (λm=>Qp (λn=>Qp (λu=>Qp (λi=>?_)))))) ?_
  (P:=¬((K5 w).length:Int)<1/\¬(8:Int)<((K5 w).length:Int)/\((GC w).length:Int)=((K5 w).length:Int)/\((GU w).length:Int)=((K5 w).length:Int)/\((Gv w).length:Int)=s/\
   (ZeM (K5 w) (λk x=>(∀ c,(GU w)[k]?=some c->0<=c/\c<=500)/\(∀ r,(GC w)[k]?=some r->0<=r/\r<=1000)/\Znk w k x)/\Zhj (Gv w) 0 (((K5 w).length:Int)-1)))
 ·rw[QF (YV a1) (λk x=>(∀ c,(GU w)[k]?=some c->0<=c/\c<=500)/\(∀ r,(GC w)[k]?=some r->0<=r/\r<=1000)/\Znk w k x) (bad:=false) (good:=tr (Zhj (Gv w) 0 (((K5 w).length:Int)-1)))
   (λk x Z a _=>by
    have H:(GU w)[k]?=some (GU w)[k]:=Ua (by omega);have E:(GC w)[k]?=some (GC w)[k]:=Ua (by omega);simp only[Ze0,show(k:Int)<((K5 w).length:Int)from by omega,Uk,Zv,H,E,Z,Bq,QT,Option.some.injEq,forall_eq'];generalize (GU w)[k]=c at H;generalize (GC w)[k]=r at E;by_cases d:0<=c/\c<=500
    ·rw[Uc (ZR d)]
     by_cases f:0<=r/\r<=1000
     ·rw[Uc (ZR f)]
      unfold Znk;by_cases b:k=0
      ·simp_all
      ·rw[Qu,Qe,Yy (show(-9223372036854775808:Int)<=(k:Int)-1 by omega)]
       constructor
       ·intro hh;rw[Uc (ZR (hh.2.2.2 (by omega)))]
       ·intro hh;rw[Ue (λq=>hh ⟨d,f,λh=>absurd h b,λ_=>(Xf _).1 q⟩)]
     ·rw[Ue (λq=>f ((Xf _).1 q))]
      grind
    ·rw[Ue (λq=>d ((Xf _).1 q))]
     grind)
   (λ_=>by
    simp only[Ze0,Ui,Uj];rw[QF (YV A) (λ_ x=>0<=x/\x<=((K5 w).length:Int)-1) (bad:=.inr false) (good:=.inr true)
     (λk x Z a _=>by
      simp only[ZeZ,show(k:Int)<((Gv w).length:Int)from by omega,Uk,Zv,Z,Bq,QT,e1];constructor
      ·intro hh;rw[Uc (ZR hh)]
      ·intro hh;rw[Ue (λq=>hh ((Xf _).1 q))])
     (λ_=>by simp only[ZeZ,Ui,Uj])]
    congr 1;have e:ZeM (Gv w) (λ_ x=>0<=x/\x<=((K5 w).length:Int)-1)<->Zhj (Gv w) 0 (((K5 w).length:Int)-1):=JA;by_cases hh:Zhj (Gv w) 0 (((K5 w).length:Int)-1)
    ·rw[Xr (e.2 hh),ZR hh]
    ·rw[Y7 (λq=>hh (e.1 q)),ZT hh]),Zef]
 ·unfold Zhn
  rw[Ztd (l:=GC w),Ztd (l:=GU w)];constructor
  ·rintro⟨g,m,n,u,i,j,Q⟩
   refine⟨⟨by omega,by omega⟩,by omega,by omega,i,λk x Z=>(j k x Z).2.2,λk r E=>?_,λk c H=>?_,Q⟩
   ·have a:=(Ub.1 E).1
    exact(j k _ (Ua (by omega))).2.1 r E
   ·have a:=(Ub.1 H).1
    exact(j k _ (Ua (by omega))).1 c H
  ·rintro⟨g,m,n,i,j,Q,v,y⟩
   exact⟨by omega,by omega,by omega,by omega,i,λk x Z=>⟨λc H=>v k c H,λr E=>Q k r E,j k x Z⟩,y⟩
def ZjL (b:Zc):Prop :=
 Zbx (GG b) (K3 b)/\(Gl b).length=(Gp (K3 b)).length/\ZeM (Gl b) (λk w=>Zhn w ((Zae (K3 b) (k:Int)).length:Int))
variable {d:Ze} {x:Pl}
theorem Zn7 (h:Zbx a d) (Z:x∈ZB d):Zq0 d x.2.2.1:=by
 unfold ZB at Z;rcases Uu.1 Z with Z|Z
 ·obtain⟨i,z,l,S⟩:=XZ.1 Z
  unfold Zah at S;obtain⟨j,n,b,W⟩:=XZ.1 S;simp only[Ut]at W;subst W;exact(h.2.2.1 z (Ud l)).2.2 n (Ud b)
 ·obtain⟨j,p,b,g⟩:=XZ.1 Z
  simp only[Zgq,Ut]at g;subst g;exact(h.2.2.2.1 p (Ud b)).2
theorem Zeh (b:Zc) (h:sm Xi b):Zcb b=some (tr (ZjL b)):=by
 obtain⟨a1,a,i⟩:=Zkc h;have s3:=ZK i;unfold Zcb;refine ZeO (YO (ZmX _ _ a1 a) (λd=>Qp (λQ=>?_))) ?_
  (P:=Zbx (GG b) (K3 b)/\((Gl b).length:Int)=((Gp (K3 b)).length:Int)/\ZeM (Gl b) (λk w=>Zhn w ((Zae (K3 b) (k:Int)).length:Int)))
 ·rw[QF (YV i) (λk w=>Zhn w ((Zae (K3 b) (k:Int)).length:Int)) (bad:=false) (good:=true)
   (λk w Z H _=>by
    simp only[Zei,show(k:Int)<((Gl b).length:Int)from by omega,Uk,Zv,Z,Bq,Zdf _ _ d.few,ZoX w _ (Zg1 i Z)];constructor
    ·intro hh;rw[Uc (ZR hh)]
    ·intro hh;rw[Ue (λq=>hh ((Xf _).1 q))])
   (λ_=>by simp only[Zei,Ui,Uj]),Zhz]
 ·unfold ZjL
  grind
theorem ZuO {l:List Pl} (Z:l[k]?=some x) :
  (((l.take (k+1)).filter (λx=>!x.2.2.2.1)).map (λx=>x.2.2.1))=if x.2.2.2.1=true then(((l.take k).filter (λx=>!x.2.2.2.1)).map (λx=>x.2.2.1))else(((l.take k).filter (λx=>!x.2.2.2.1)).map (λx=>x.2.2.1))++[x.2.2.1]:=by
 rw[XF Z,List.filter_append,Kp];grind
theorem ZbX (b:Zc) (c:sm Xi b):ZbW b=some (tr (ZjL b)):=by
 obtain⟨a1,a,i⟩:=Zkc c;have s3:=ZK i;unfold ZbW;refine ZeO (YO (ZmP _ _ a1 a) (λd=>Qp (λQ=>?_))) ?_
  (P:=Zbx (GG b) (K3 b)/\((Gl b).length:Int)=((Gp (K3 b)).length:Int)/\ZeM (Gl b) (λk w=>Zhn w ((Zae (K3 b) (k:Int)).length:Int)))
 ·rw[QQ,QQ,QQ,QQ,Xm _ d.few,Bq]
  have f:=YT d.few;have:=Za1 (l:=ZB (K3 b)) (ρ:=Bool) (λk=>((k:Int),ZmC (Gl b).length ((((ZB (K3 b)).take k).filter (λx=>!x.2.2.2.1)).map (λx=>x.2.2.1)),())) (step:=λv=>Zbz b (ZB (K3 b)) v.1 v.2.1) (good:=tr (ZeM (Gl b) (λk w=>Zhn w ((Zae (K3 b) (k:Int)).length:Int))))
   (λk x Z h=>by
    have W:=Zn7 d (Ud Z);have H:=List.length_filter_le (λx:Pl=>!x.2.2.2.1) ((ZB (K3 b)).take k);rw[Uo]at H;simp only[Zbz,show(k:Int)<((ZB (K3 b)).length:Int)from by omega,Uk,Zv,Z,Bq,ZuO Z];by_cases L:x.2.2.2.1=true
    ·rw[Uc L,Uc L,Xd]
    ·rw[Ue L,Ue L,ZiB W.1 (by have:=W.2;grind) (by grind) (F:=λo=>some (Sum.inl (Wq ((k:Int)+1),o,()))),Xd])
   (by
    simp only[Zbz,Ui,Uj,Ur];rw[QF (YV i) (λk w=>Zhn w ((Zae (K3 b) (k:Int)).length:Int)) (bad:=.inr false) (good:=.inr true)
     (λk w Z h _=>by
      have e:(Zae (K3 b) (k:Int)).length=_:=Zoh (k:Int) (ZB (K3 b)) 0;simp only[Zd2,show(k:Int)<((Gl b).length:Int)from by omega,Uk,Zv,Z,Bq];rw[Zkv h,Bq,ZoL w _ (Zg1 i Z),Bq,e];constructor
      ·intro hh;rw[Uc (ZR hh)]
      ·intro hh;rw[Ue (λq=>hh ((Xf _).1 q))])
     (λ_=>by simp only[Zd2,Ui,Uj])]
    congr 1;by_cases hh:ZeM (Gl b) (λk w=>Zhn w ((Zae (K3 b) (k:Int)).length:Int))
    ·rw[Xr hh,ZR hh]
    ·rw[Y7 hh,ZT hh])
  rw[Ki,List.filter_nil,Hx,ZpZ]at this;exact this
 ·unfold ZjL
  grind
structure Xh (b:Zc):Prop where
 ok:ZjL b
 sm:sm Xi b
theorem Zdq (Q:ρ->Prop) {step:τ->Option (τ⊕ρ)} (h:I 0 v)
  (q:∀(k:Nat) (x:α) (v:τ),l[k]?=some x->k<l.length->I k v->∃v',step v=some (.inl v')/\I (k+1) v')
  (Z:∀v,I l.length v->∃r,step v=some (.inr r)/\Q r):∃r,Zt step v=some r/\Q r :=
 ZdQ l.length I Q h (λk v H m=>.inl (q k l[k] v (Ua H) H m)) Z
theorem Zfk (k:0<=i) (d:i<(l.length:Int):=by omega):∃x,atI l i=some x/\x∈l:=by
 obtain⟨x,f,g⟩:=Zjv k d;grind
theorem Zw3 (h:Zbx a d) (Z:x∈ZB d):∃n,Je d a x=some n:=by
 unfold Je;split
 ·exact⟨_,rfl⟩
 ·rename_i g
  unfold ZB at Z;rcases Uu.1 Z with Z|Z
  ·obtain⟨i,z,l,S⟩:=XZ.1 Z
   unfold Zah at S;obtain⟨j,n,b,W⟩:=XZ.1 S;simp only[Ut]at W;subst W;rw[Uw]at g;obtain⟨q,⟨c,H,y⟩,_⟩:=h.2.2.1 z (Ud l);have e:=(Ub.1 b).1;simp only[G9,Y6.pin,Uw,Zv,l,Bq];rw[Qt q.1 H,Bq];grind
  ·obtain⟨j,p,b,f⟩:=XZ.1 Z
   simp only[Zgq,Ut]at f;grind
variable {y:Int}
theorem ZiR {net:Int} (h:y∈Zae d net):0<=y/\y<((ZB d).length:Int):=by
 obtain⟨k,x,H,e⟩:=XZ.1 h;have:=(Ub.1 H).1;unfold Zgs at e;grind
variable {w:ZC} {s x:Int}
theorem Zhn.par (h:Zhn w s) (Z:(K5 w)[k]?=some x) (H:0<k):0<=x/\x<=(k:Int)-1:=(h.2.2.2.2.1 k x Z).2 H
theorem ZhW (h:Xh b) (B:(Gl b)[k]?=some w):∃r,YE b (k:Int)=some r/\r.length=(K5 w).length:=by
 have F:=h.ok.2.2 k w B;have u:=h.ok.1;have f:=u.few;obtain⟨⟨Y,P⟩,lr,T,ls,M,O,N,n⟩:=F;have K:=YT f;have L:=Zeg (k:Int) (ZB (K3 b)) 0;have A:(Zae (K3 b) (k:Int)).length<=78:=by unfold Zae;omega
 unfold YE;rw[Zv,B,Bq];unfold Xa;rw[Zk (by simp;omega),Bq,Xm _ f,Bq,ZcG _ _ f,Bq];refine Zdq (l:=Zae (K3 b) (k:Int)) (λm v=>v.1=(m:Int)/\v.2.1.length=(K5 w).length) _ ⟨rfl,by simp;omega⟩ ?_ ?_
 ·rintro m y ⟨i,l,⟨⟩⟩ C Q ⟨a,H⟩
  simp only at a H;subst a;have S:(Gv w)[m]?=some (Gv w)[m]:=Ua (by omega);generalize (Gv w)[m]=z at S;have t:=n z (Ud S);obtain⟨q,e,_⟩:=Zfk (l:=l) t.1;obtain⟨s,I⟩:=ZiR (Ud C);obtain⟨p,o,d⟩:=Zfk s I;obtain⟨c,G⟩:=Zw3 u d;simp only[Xo,show(m:Int)<((Zae (K3 b) (k:Int)).length:Int)from by omega,Uk,Zv,C,S,Bq,e,o,G];exact⟨_,rfl,by rw[Xd],by simp[H]⟩
 ·rintro⟨i,l,⟨⟩⟩ ⟨a,H⟩
  simp only at a H;subst a;simp only[Xo,Ui,Uj];have:=Ze5 (σ:=Int×List Int×Unit) (ρ:=(Int×List Int×Unit)⊕List Int) (step:=λv=>X7 w v.1 v.2.1) (λv=>(∃j:Nat,v.1=(j:Int)/\j<(K5 w).length)/\v.2.1.length=(K5 w).length) (λv=>v.1.toNat) (λr=>∃D,r=.inr D/\D.length=(K5 w).length) (v:=(Wq ((l.length:Int)-1),l,()))
   ⟨⟨l.length-1,by show Wq _=_;rw[Zhm],by omega⟩,H⟩
   (by
    rintro⟨i,l,⟨⟩⟩ ⟨⟨j,x,J⟩,H⟩;simp only at x H;subst x;simp only[X7];by_cases E:(0:Int)<(j:Int)
    ·rw[Uc E]
     have g:(K5 w)[j]?=some (K5 w)[j]:=Ua (by omega);generalize (K5 w)[j]=p at g;have d:=(M j p g).2 (by omega);obtain⟨q,e,_⟩:=Zfk (l:=l) d.1;have R:l[j]?=some l[j]:=Ua (by omega);simp only[Zv,g,Bq,e,R];left;refine⟨_,rfl,⟨⟨j-1,by rw[Zhm],by omega⟩,by simp[H]⟩,?_⟩;show(Wq ((j:Int)-1)).toNat<((j:Int)).toNat;rw[Zhm];omega
    grind)
  grind
variable {v:Nat}
theorem ZuN (h:Xh b) (c:(Gl b)[v]?=some w):ZcC b (v:Int)=YE b (v:Int):=by
 have H:=h.ok.1.few;unfold ZcC YE;rw[Zv,c,Bq,Bq,show ZaL (GU w)=Xa (GU w)from rfl,Y5 _ H,Xm _ H,Zdf _ _ H,ZcG _ _ H];refine Ka (Option.bind _) ?_;funext l;rw[Bq,Bq,Bq,Bq];refine Ka (λf=>Zt f _) ?_;funext u;obtain⟨i,l,⟨⟩⟩:=u;simp only[Zgt,Xo];split
 ·cases atI (Zae (K3 b) (v:Int)) i with
  |none =>
   cases atI (Gv w) i with
   |none=>rfl
   |some z =>
    simp only[Bq,Option.bind_none];cases atI l z<;>rfl
  |some y =>
   cases atI (Gv w) i with
   |none=>rfl
   |some z =>
    simp only[Bq];cases atI l z with
    |none=>rfl
    |some q=>rfl
 ·rfl
def ZlT:List Int->Int
 |[]=>0
 |x::r=>x+ZlT r
theorem ZnV:∀l r:List Int,ZlT (l++r)=ZlT l+ZlT r
 |[],r=>by show ZlT r=0+ZlT r;omega
 |x::l,r=>by
  show x+ZlT (l++r)=x+ZlT l+ZlT r;rw[ZnV l r];omega
theorem Zqj:∀{l:List Int} {i:Nat} {x:Int} (c:Int),l[i]?=some x->ZlT (l.set i (x+c))=ZlT l+c
 |[],i,x,c,h=>by simp at h
 |y::l,0,x,c,h=>by
  have:y=x:=by simpa using h
  subst this;show y+c+ZlT l=y+ZlT l+c;omega
 |y::l,i+1,x,c,h=>by
  show y+ZlT (l.set i (x+c))=y+ZlT l+c;rw[Zqj c (by simpa using h)];omega
theorem Zqi:∀{l:List Int},(∀x∈l,0<=x)->0<=ZlT l/\∀x∈l,x<=ZlT l
 |[],_=>⟨U7 _,λx Z=>by cases Z⟩
 |y::l,h=>by
  obtain⟨d,f⟩:=Zqi (l:=l) λx Z=>h x (UP _ Z);have e:=h y UK;refine⟨by show 0<=y+ZlT l;omega,λx Z=>?_⟩;show x<=y+ZlT l;rcases Us.1 Z with rfl|Z
  ·omega
  ·have:=f x Z;omega
theorem ZwC:∀{l:List Int} {c:Int},(∀x∈l,x<=c)->ZlT l<=(l.length:Int)*c
 |[],c,_=>by show(0:Int)<=((0:Nat):Int)*c;simp
 |y::l,c,h=>by
  have d:=ZwC (l:=l) (c:=c) λx Z=>h x (UP _ Z);have f:=h y UK;show y+ZlT l<=((l.length+1:Nat):Int)*c;rw[show((l.length+1:Nat):Int)=(l.length:Int)+1 by omega,Int.add_mul,Int.one_mul];omega
variable {l:List Int}
theorem ZlX {i:Nat} (h:y∈l.set i x):y=x\/y∈l:=(Ke h).symm
theorem ZrL (h:Zbx a d) {x:Pl} (Z:x∈ZB d):∃n,Je d a x=some n/\0<=n/\n<=500:=by
 unfold Je;split
 ·exact⟨_,rfl,by omega,by omega⟩
 ·rename_i g
  unfold ZB at Z;rcases Uu.1 Z with Z|Z
  ·obtain⟨i,z,l,S⟩:=XZ.1 Z
   unfold Zah at S;obtain⟨j,n,f,W⟩:=XZ.1 S;simp only[Ut]at W;subst W;rw[Uw]at g;obtain⟨q,⟨c,H,y⟩,_⟩:=h.2.2.1 z (Ud l);have k:=(Ub.1 f).1;have s:=(h.1.2.1 c (Ud H)).2.1;simp only[G9,Y6.pin,Uw,Zv,l,Bq];rw[Qt q.1 H,Bq];have b:(K6 c)[j]?=some (K6 c)[j]:=Ua (by omega);rw[b,Bq];have e:=(s.2.2.2 j _ b).1;exact⟨_,rfl,e.1,e.2⟩
  ·obtain⟨j,p,f,b⟩:=XZ.1 Z
   simp only[Zgq,Ut]at b;subst b;exact absurd (by show(-1:Int)<0;omega) g
theorem ZrE (h:Xh b) (W:(Gl b)[k]?=some w):∃r,YE b (k:Int)=some r/\r.length=(K5 w).length/\∀x∈r,0<=x/\x<=43000:=by
 have hW:=h.ok.2.2 k w W;have T:=h.ok.1;have F:=T.few;obtain⟨⟨l1,l8⟩,lr,lc,ls,ht,ar,P,E⟩:=hW;have a2:=YT F;have a5:=Zeg (k:Int) (ZB (K3 b)) 0;have V:(Zae (K3 b) (k:Int)).length<=78:=by unfold Zae;omega
 have a0:ZlT (GU w)<=4000:=by
  have:=ZwC (l:=GU w) (c:=500) λx Z=>(P x Z).2;omega
 unfold YE;rw[Zv,W,Bq];unfold Xa;rw[Zk (by simp;omega),Bq,Xm _ F,Bq,ZcG _ _ F,Bq,Uq];refine Zdq (l:=Zae (K3 b) (k:Int)) (λm v=>v.1=(m:Int)/\v.2.1.length=(K5 w).length/\(∀x∈v.2.1,0<=x)/\ZlT v.2.1<=4000+(m:Int)*500) _ ⟨rfl,by simp;omega,λx Z=>(P x Z).1,by simp only;omega⟩ ?_ ?_
 ·rintro m y ⟨i,l,⟨⟩⟩ M hm ⟨t,f,a,d⟩
  simp only at t f a d;subst t;have S:(Gv w)[m]?=some (Gv w)[m]:=Ua (by omega);generalize (Gv w)[m]=z at S;have C:=E z (Ud S);obtain⟨q,e,o⟩:=Zfk (l:=l) C.1;obtain⟨N,O⟩:=ZiR (Ud M);obtain⟨p,I,g⟩:=Zfk N O;obtain⟨c,hc,c0,c5⟩:=ZrL T g;have a3:=a q o;have a4:=(Zqi a).2 q o;have s:l[z.toNat]?=some q:=by
   unfold atI at e;rw[Uc C.1]at e;exact e
  simp only[Xo,show(m:Int)<((Zae (K3 b) (k:Int)).length:Int)from by omega,Uk,Zv,M,S,Bq,e,I,hc];rw[QP (n:=q+c)];refine⟨_,rfl,by rw[Xd],by simp[f],λx Z=>?_,?_⟩
  ·rcases ZlX Z with rfl|Z
   ·omega
   ·exact a x Z
  ·simp only
   rw[Zqj c s];omega
 ·rintro⟨i,l,⟨⟩⟩ ⟨t,f,a,d⟩
  simp only at t f a d;subst t;simp only[Xo,Ui,Uj];have hT:ZlT l<=43000:=by omega
  have H:∀x∈l,0<=x/\x<=43000:=λx Z=>⟨a x Z,by have:=(Zqi a).2 x Z;omega⟩;have:=Ze5 (σ:=Int×List Int×Unit) (ρ:=(Int×List Int×Unit)⊕List Int) (step:=λv=>X7 w v.1 v.2.1) (λv=>(∃j:Nat,v.1=(j:Int)/\j<(K5 w).length/\ZlT (v.2.1.take (j+1))<=43000)/\v.2.1.length=(K5 w).length/\∀x∈v.2.1,0<=x/\x<=43000) (λv=>v.1.toNat) (λr=>∃D,r=.inr D/\D.length=(K5 w).length/\∀x∈D,0<=x/\x<=43000) (v:=(Wq ((l.length:Int)-1),l,()))
   ⟨⟨l.length-1,by show Wq _=_;rw[Zhm],by omega,by simp only;rw[KO (by omega)];exact hT⟩,f,H⟩
   (by
    rintro⟨i,l,⟨⟩⟩ ⟨⟨j,U,a1,u⟩,f,H⟩;simp only at U f u H;subst U;simp only[X7];by_cases Q:(0:Int)<(j:Int)
    ·rw[Uc Q]
     have G:(K5 w)[j]?=some (K5 w)[j]:=Ua (by omega);generalize (K5 w)[j]=p at G;have g:=(ht j p G).2 (by omega);obtain⟨q,e,o⟩:=Zfk (l:=l) g.1;have s:l[p.toNat]?=some q:=by
      unfold atI at e;rw[Uc g.1]at e;exact e
     have R:l[j]?=some l[j]:=Ua (by omega);generalize l[j]=y at R;have M:=H y (Ud R);have hq:=H q o;simp only[Zv,G,Bq,e,R];rw[QP (n:=q+y)];have K:(l.take j)[p.toNat]?=some q:=by rw[UB,Qe];exact s
     have J:ZlT ((l.set p.toNat (q+y)).take j)<=43000:=by
      rw[List.take_set,Zqj y K];rw[XF R,ZnV]at u;have:ZlT [y]=y:=by show y+0=y;omega
      omega
     have B:∀x∈(l.set p.toNat (q+y)).take j,0<=x:=λx Z=>by
      rcases ZlX (List.mem_of_mem_take Z)with rfl|Z
      ·omega
      ·exact(H x Z).1
     have L:q+y<=43000:=by
      have A:q+y∈(l.set p.toNat (q+y)).take j:=by
       refine Ud (i:=p.toNat) ?_;rw[UB,Qe,UF (by omega)]
      have:=(Zqi B).2 _ A;omega
     left;refine⟨_,rfl,⟨⟨j-1,by rw[Zhm],by omega,?_⟩,by simp[f],λx Z=>?_⟩,?_⟩
     ·simp only
      rw[show j-1+1=j by omega];exact J
     ·rcases ZlX Z with rfl|Z
      ·exact⟨by omega,L⟩
      ·exact H x Z
     ·show(Wq ((j:Int)-1)).toNat<((j:Int)).toNat
      rw[Zhm];omega
    ·rw[Ue Q]
     right;exact ⟨_,rfl,_,rfl,f,H⟩)
  obtain⟨r,X,D,rfl,Y⟩:=this;exact⟨D,X,Y⟩
variable {a A:Int}
theorem Zim {b B:Int} (d:0<=a) (f:a<=A) (g:0<=b) (i:b<=B):0<=a*b/\a*b<=A*B :=
 ⟨Hw d g,Int.mul_le_mul f i g (by omega)⟩
theorem ZnZ {p M:Int} (d:-M<=y) (f:y<=M) (g:0<=p:=by omega):-(M*p)<=y*p/\y*p<=M*p:=by
 have a:=Kq d g;have b:=Kq f g;rw[Int.neg_mul]at a;exact⟨a,b⟩
def dlF (w:ZC) (ld:List Int):Nat->List Int
 |0=>[0]
 |m+1=>dlF w ld m++[((dlF w ld m)[(((K5 w)[m+1]?).getD 0).toNat]?).getD 0+(((GC w)[m+1]?).getD 0)*((ld[m+1]?).getD 0)]
theorem ZjV (w:ZC) (ld:List Int):∀m,(dlF w ld m).length=m+1
 |0=>rfl
 |m+1=>by show(dlF w ld m++[_]).length=_;rw[Uh,ZjV w ld m];rfl
theorem ZsC {o H:Int} (h:∀x∈l,o<=x/\x<=H) (d:o<=0) (f:0<=H) (i:Nat):o<=(l[i]?).getD 0/\(l[i]?).getD 0<=H:=by
 cases e:l[i]? with
 |none=>exact⟨d,f⟩
 |some x=>exact h x (Ud e)
theorem Zv5 {w:ZC} {ld:List Int} (E:∀x∈GC w,0<=x/\x<=1000) (q:∀x∈ld,0<=x/\x<=43000):∀m,∀x∈dlF w ld m,0<=x/\x<=(m:Int)*43000000
 |0,x,Z=>by
  have:x=0:=by simpa[dlF]using Z
  subst this;omega
 |m+1,x,Z=>by
  have Q:=Zv5 E q m;rcases Uu.1 (show x∈dlF w ld m++[_]from Z)with Z|Z
  ·have:=Q x Z;omega
  ·rw[Ut.1 Z]
   have a:=ZsC Q (by omega) (by omega) (((K5 w)[m+1]?).getD 0).toNat;have b:=ZsC E (by omega) (by omega) (m+1);have c:=ZsC q (by omega) (by omega) (m+1);have d:=Zim b.1 b.2 c.1 c.2;omega
structure Zsj (b:Zc) (k:Nat) (w:ZC) (ld:List Int):Prop where
 wire:(Gl b)[k]?=some w
 n1:1<=(K5 w).length
 n8:(K5 w).length<=8
 nr:(GC w).length=(K5 w).length
 nl:ld.length=(K5 w).length
 par:∀(m:Nat),m+1<(K5 w).length->∃p,(K5 w)[m+1]?=some p/\0<=p/\p<=(m:Int)
 res:∀x∈GC w,0<=x/\x<=1000
 lds:∀x∈ld,0<=x/\x<=43000
 snk:∀x∈Gv w,0<=x/\x<=((K5 w).length:Int)-1
 few:(Gv w).length<=1048576
 prog:YE b (k:Int)=some ld
 ref:ZcC b (k:Int)=some ld
theorem ZE5 (h:Xh b) (c:(Gl b)[k]?=some w):∃ld,Zsj b k w ld:=by
 have F:=h.ok.2.2 k w c;obtain⟨⟨Y,P⟩,lr,L,ls,r,O,N,n⟩:=F;obtain⟨nl,l,H,d⟩:=ZrE h c;have T:=ZK (ZrZ (Zg1 (Zkc h.sm).2.2 c)).2.2.2;refine⟨nl,c,Y,P,lr,H,λm Q=>?_,O,d,n,by omega,l,by rw[ZuN h c,l]⟩;have g:(K5 w)[m+1]?=some ((K5 w)[m+1]'Q):=Ua _;have:=(r (m+1) _ g).2 (by omega);exact⟨_,g,this.1,by omega⟩
def ndl (w:ZC) (ld:List Int):List Int:=dlF w ld ((K5 w).length-1)
variable {ld:List Int}
theorem Zsj.len (h:Zsj b k w ld):(ndl w ld).length=(K5 w).length:=by
 have:=h.n1;unfold ndl;rw[ZjV];omega
theorem Zsj.bd (h:Zsj b k w ld):∀x∈ndl w ld,0<=x/\x<=301000000:=λx Z=>by
 have:=Zv5 h.res h.lds _ x Z;have:=h.n1;have:=h.n8;omega
theorem Zsj.step (h:Zsj b k w ld) (Q:m+1<(K5 w).length) :
  ∃p r l q,(K5 w)[m+1]?=some p/\(GC w)[m+1]?=some r/\ld[m+1]?=some l/\0<=p/\p<=(m:Int)/\(dlF w ld m)[p.toNat]?=some q/\Wq (q+Wq (r*l))=q+r*l/\dlF w ld (m+1)=dlF w ld m++[q+r*l]:=by
 obtain⟨p,g,p0,p1⟩:=h.par m Q;have E:(GC w)[m+1]?=some ((GC w)[m+1]'(by have:=h.nr;omega)):=Ua _;have H:ld[m+1]?=some (ld[m+1]'(by have:=h.nl;omega)):=Ua _;have a:(dlF w ld m)[p.toNat]?=some ((dlF w ld m)[p.toNat]'(by rw[ZjV];omega)):=Ua _;have b1:=h.res _ (Ud E);have N:=h.lds _ (Ud H);have P:=Zv5 h.res h.lds m _ (Ud a);generalize (GC w)[m+1]'(by have:=h.nr;omega)=r at *;generalize ld[m+1]'(by have:=h.nl;omega)=l at *;generalize (dlF w ld m)[p.toNat]'(by rw[ZjV];omega)=q at *;have B:=Zim b1.1 b1.2 N.1 N.2;have:=h.n8;refine⟨p,r,l,q,g,E,H,p0,p1,a,by rw[QP (n:=r*l),QP],?_⟩;show dlF w ld m++[_]=_;rw[g,E,H];simp only[UQ];rw[a];rfl
theorem Zon (h:Zsj b k w ld):Zc2 b (k:Int)=some (ndl w ld):=by
 have W:=h.nl;have d:=h.n1;have H:=h.n8;unfold Zc2;rw[Zv,h.wire,Bq,h.ref,Bq];refine YC ((K5 w).length-1) (λm v=>v=(dlF w ld m,((m+1:Nat):Int),())) _ rfl ?_ ?_
 ·rintro m _ Q rfl
  obtain⟨p,r,l,q,e1,f,i,p0,p1,E,g,a⟩:=h.step (m:=m) (by omega);have e:atI (dlF w ld m) p=some q:=Qt p0 E;simp only[ZcO,show((m+1:Nat):Int)<(ld.length:Int)from by omega,Uk,Zv,e1,f,i,e,Bq,g];rw[Zk (by rw[ZjV];simp only[Uf,Ug];omega),Xd];exact .inl ⟨_,rfl,by rw[a]⟩
 ·rintro _ rfl
  simp only[ZcO,show ¬(((K5 w).length-1+1:Nat):Int)<(ld.length:Int)from by omega,Uj];rfl
theorem ZsF (h:Zsj b k w ld):Qx b (k:Int)=some (ndl w ld):=by
 have W:=h.nl;have d:=h.n1;have H:=h.n8;unfold Qx;rw[Zv,h.wire,Bq,h.prog,Bq,QQ,QQ,QQ,QQ];refine YC ((K5 w).length-1) (λm v=>v=(((m+1:Nat):Int),dlF w ld m++List.replicate ((K5 w).length-1-m) (0:Int),())) _ ?_ ?_ ?_
 ·rw[UG,W]
  simp only[Prod.mk.injEq,and_true];refine⟨rfl,?_⟩;show List.replicate (K5 w).length (0:Int)=[0]++List.replicate ((K5 w).length-1-0) 0;rw[show(K5 w).length=((K5 w).length-1)+1 by omega,Ks];simp
 ·rintro m _ Q rfl
  obtain⟨p,r,l,q,e1,f,i,p0,p1,E,g,a⟩:=h.step (m:=m) (by omega);have n:=ZjV w ld m;have e:atI (dlF w ld m++List.replicate ((K5 w).length-1-m) (0:Int)) p=some q:=Qt p0 (by rw[Uy (by omega)];exact E);have c:(dlF w ld m++List.replicate ((K5 w).length-1-m) (0:Int))[m+1]?=some 0:=by
   rw[UY (by omega),n,Kc,Qe]
  have R:(dlF w ld m++List.replicate ((K5 w).length-1-m) (0:Int)).length=(K5 w).length:=by
   rw[Uh,UT];omega
  simp only[XM,R,show((m+1:Nat):Int)<((K5 w).length:Int)from by omega,Uk,Zv,e1,f,i,e,c,Bq,g];rw[Xd];refine .inl ⟨_,rfl,?_⟩;simp only[Prod.mk.injEq,and_true,true_and,UG];rw[a,List.set_append_right _ _ (by omega),n,show(K5 w).length-1-m=((K5 w).length-1-(m+1))+1 by omega,Ks,Nat.sub_self,List.set_cons_zero,Un];rfl
 ·rintro _ rfl
  have R:(dlF w ld ((K5 w).length-1)++List.replicate ((K5 w).length-1-((K5 w).length-1)) (0:Int)).length=(K5 w).length:=by
   rw[Uh,UT,ZjV];omega
  simp only[XM,R,show ¬(((K5 w).length-1+1:Nat):Int)<((K5 w).length:Int)from by omega,Uj];rw[Nat.sub_self,List.replicate_zero,Um];rfl
theorem Zzw {l:List Int} (h:Inc l) {i:Nat} {x:Int} (Z:l[i]?=some x):∀(m:Nat) (y:Int),l[i+m+1]?=some y->x<y
 |0,y,e=>h i x y Z e
 |m+1,y,e=>by
  have q:=(Ub.1 e).1;have S:l[i+m+1]?=some (l[i+m+1]'(by omega)):=Ua _;have d:=Zzw h Z m _ S;have f:=h (i+m+1) _ y S e;omega
theorem ZlO (h:Inc l) {i:Nat} (V:i<j) (Z:l[i]?=some x) (e:l[j]?=some y):x<y :=
 Zzw h Z (j-i-1) y (by grind)
def On (l:List Int) (x:Int) (j:Nat):Prop:=l[j]?=some x
def Btw (l:List Int) (x:Int) (j:Nat) (y z:Int):Prop:=l[j]?=some y/\l[j+1]?=some z/\y<x/\x<z
variable {c:Int}
theorem ZCu (f:l[0]?=some a) (d:l[l.length-1]?=some c) (H:a<=x) (b:x<=c):(∃j,On l x j)\/∃j y z,Btw l x j y z:=by
 have key:∀(k:Nat) (y:Int),l[k]?=some y->y<=x\/((∃j,On l x j)\/∃j y z,Btw l x j y z):=by
  intro k;induction k with
  |zero =>
   grind
  |succ k i =>
   intro y h;have g:=(Ub.1 h).1;have S:l[k]?=some (l[k]'(by omega)):=Ua _;rcases i _ S with q|q
   ·by_cases w:y<=x
    ·exact .inl w
    ·right
     by_cases e:l[k]'(by omega)=x
     ·exact .inl ⟨k,by unfold On;rw[S,e]⟩
     ·exact .inr ⟨k,_,y,S,h,by omega,by omega⟩
   ·exact .inr q
 rcases key _ c d with q|q
 ·exact .inl ⟨l.length-1,by unfold On;grind⟩
 ·exact q
structure Fst (l:List Int) (x:Int) (p:Nat):Prop where
 le:p<=l.length
 low:∀(i:Nat) (y:Int),i<p->l[i]?=some y->y<x
 up:∀(i:Nat) (y:Int),p<=i->l[i]?=some y->x<=y
theorem Fst.on {p:Nat} (h:Fst l x p) (i:Inc l) (b:On l x j):p=j:=by
 have X:=(Ub.1 b).1;rcases Nat.lt_trichotomy p j with q|q|q
 ·have g:l[p]?=some (l[p]'(by omega)):=Ua _
  have d:=ZlO i q g b;have f:=h.up p _ (UE _) g;omega
 ·exact q
 ·have:=h.low j x q b
  omega
theorem Fst.btw {p:Nat} {z:Int} (h:Fst l x p) (H:Inc l) (b:Btw l x j y z):p=j+1:=by
 obtain⟨d,f,g,i⟩:=b;have X:=(Ub.1 f).1;rcases Nat.lt_trichotomy p (j+1)with q|q|q
 ·have:=h.up j y (by omega) d
  omega
 ·exact q
 ·have:=h.low (j+1) z q f
  omega
theorem Zx4 (g:Inc l) {step:Int×Int×Unit->Option ((Int×Int×Unit)⊕ρ)} {good:Nat->ρ}
  (m:∀(i j:Nat) (y:Int),i<j->j<=l.length->l[(i+j)/2]?=some y->step ((i:Int),(j:Int),())=some (.inl (if y<x then(((i+j)/2+1:Nat):Int)else(i:Int),if y<x then(j:Int)else(((i+j)/2:Nat):Int),())))
  (n:∀i:Nat,i<=l.length->step ((i:Int),(i:Int),())=some (.inr (good i))):∃p,Fst l x p/\Zt step ((0:Int),(l.length:Int),())=some (good p):=by
 obtain⟨r,e,p,rfl,o⟩:=Ze5 (step:=step) (v:=((0:Int),(l.length:Int),())) (λv=>∃i j:Nat,v=((i:Int),(j:Int),())/\i<=j/\j<=l.length/\(∀(k:Nat) (y:Int),k<i->l[k]?=some y->y<x)/\∀(k:Nat) (y:Int),j<=k->l[k]?=some y->x<=y) (λv=>(v.2.1-v.1).toNat) (λr=>∃p,r=good p/\Fst l x p)
  ⟨0,l.length,rfl,by omega,UE _,λk y f=>by omega,λk y f a=>by grind⟩ (by
   rintro _ ⟨i,j,rfl,V,b,h,H⟩;by_cases c:i<j
   ·left
    have a:l[(i+j)/2]?=some (l[(i+j)/2]'(by omega)):=Ua _;generalize l[(i+j)/2]'(by omega)=y at a;refine⟨_,m i j y c b a,?_,?_⟩
    ·by_cases d:y<x
     ·refine⟨(i+j)/2+1,j,by grind,by omega,b,λk z f S=>?_,H⟩
      by_cases w:k=(i+j)/2
      ·grind
      ·have:=ZlO g (by omega) S a;omega
     ·refine⟨i,(i+j)/2,by grind,by omega,by omega,h,λk z f S=>?_⟩
      by_cases w:k=(i+j)/2
      ·grind
      ·have:=ZlO g (by omega) a S;omega
    ·by_cases d:y<x
     ·rw[Uc d,Uc d];simp only;omega
     ·rw[Ue d,Ue d];simp only;omega
   ·right
    have:i=j:=by omega
    subst this;exact ⟨_,n i b,i,rfl,b,h,H⟩)
 exact⟨p,o,e⟩
structure ZC3 (l:List Int) (j a b:Int):Prop where
 j0:0<=j
 jl:j<l.length
 jb:0<b->j+1<l.length
 a0:0<a
 b0:0<=b
 ab:a+b<=100000
def wl (j a b:Int):List Zbo:=if b=0 then[(j,a,())]else[(j,a,()),(j+1,b,())]
theorem ZAf {i:Nat} (h:i+j<=100):Wq (Int.fdiv (IntKind.wrap IntKind.u64 (Wq ((i:Int)+(j:Int)))) ((2:Int)^Min.min (Int.toNat (1:Int)) (IntKind.bits IntKind.u64)))=(((i+j)/2:Nat):Int):=by
 rw[QP (n:=(i:Int)+(j:Int)),show IntKind.wrap IntKind.u64 ((i:Int)+(j:Int))=(i:Int)+(j:Int)from IntWalk.u64_in _ (by omega),show((2:Int)^Min.min (Int.toNat (1:Int)) (IntKind.bits IntKind.u64))=2 from by decide,Int.fdiv_eq_ediv_of_nonneg _ (by omega),QP];omega
variable (x:Int)
theorem ZAq (y:Int):Ze7 x y=some (decide (x<y)):=by
 unfold Ze7 ZdU;rw[Bq,UJ (show x=x from rfl)];rfl
theorem ZCi:JX x=some false:=by
 unfold JX;rw[UJ (show x=x from rfl)];rfl
theorem Zxj (H:Inc l) (q:l.length<=4) (x:Int):∃p,Fst l x p/\XK l x=some ((p:Int),decide (l[p]?=some x)):=by
 unfold XK;refine Zx4 (x:=x) (good:=λp=>((p:Int),decide (l[p]?=some x))) H (λi j y V b h=>?_) (λi H=>?_)
 ·simp only[X5,show(i:Int)<(j:Int)from by omega,Uk,ZAf (show i+j<=100 by omega),Zv,h,Bq,ZAq,Ul,Xd (show(i+j)/2<=1048576 by omega)]
  by_cases c:y<x
  ·rw[Uc c,Uc c,Uc c]
  ·rw[Ue c,Ue c,Ue c]
 ·simp only[X5,Ui,Uj]
  by_cases c:i<l.length
  ·have h:l[i]?=some l[i]:=Ua c
   generalize l[i]=y at h;rw[Uc (show(i:Int)<(l.length:Int) by omega),Zv,h,Bq];by_cases e:y=x
   ·rw[Uc e,UJ (by rw[e])]
   ·rw[Ue e,ZCi,Bq,Ue (by simp),decide_eq_false (by rw[Option.some.injEq];exact e)]
  ·rw[Ue (show ¬(i:Int)<(l.length:Int) by omega),Uv (by omega)]
   rfl
theorem ZpJ (h:ZfL l) (x:Int):∃j a b,ZC3 l j a b/\Zce l x=some (j,a,b)/\Zfn l x=some (wl j a b,a+b):=by
 obtain⟨Y,R,A,g⟩:=h;have k:l[0]?=some (l[0]'(by omega)):=Ua _;have W:l[l.length-1]?=some (l[l.length-1]'(by omega)):=Ua _;generalize l[0]'(by omega)=X at k;generalize l[l.length-1]'(by omega)=d at W;have O:X<=d:=by
  by_cases q:l.length=1
  ·rw[q]at W
   rw[k]at W;injection W with W
   omega
  ·have:=ZlO g (show 0<l.length-1 by omega) k W
   omega
 have bd:∀{j:Nat} {y:Int},l[j]?=some y->0<=y/\y<=100000:=λ{j y} t=>A y (Ud t);have b1:=bd k;have T:=bd W;have a0:atI l 0=some X:=Qt (U7 _) k;have K:atI l (Wq ((↑(List.length l):Int)-(1:Int)))=some d:=by
  rw[QP];exact Qt (by omega) (by rw[<-W];congr 1;omega)
 unfold Zce Zfn;simp only[a0,K,Bq];have o:X<=Min.min (Max.max x X) d:=by omega
 have s:Min.min (Max.max x X) d<=d:=by omega
 have L:∀(i:Int),J2 l x X d i=if(0:Int)<=i then
   (atI l i).bind λF =>
   if Min.min (Max.max x X) d=F then
    some (.inr (i,(1:Int),(0:Int)))
   else
    if F<Min.min (Max.max x X) d then
     (atI l (Wq (i+(1:Int)))).bind λS =>
     some (.inr (i,Wq (S-Min.min (Max.max x X) d),Wq (Min.min (Max.max x X) d-F)))
    else
     some (.inl (Wq (i-(1:Int)),()))
  else
   some (.inr ((0:Int),(1:Int),(0:Int))):=λi=>rfl
 generalize Min.min (Max.max x X) d=c at o s L ⊢;obtain⟨p,J,Q⟩:=Zxj g R c;rw[Q,Bq];rcases ZCu k W o s with⟨j,H⟩|⟨j,y,z,H⟩
 ·have B:=(Ub.1 H).1
  have e:=J.on g H;subst e;refine⟨(p:Int),1,0,⟨by omega,by omega,λq=>by omega,by omega,by omega,by omega⟩,?_,?_⟩
  ·have key:∀(r:Nat),p+r<l.length->Zt (λv=>J2 l x X d v.1) (((p+r:Nat):Int),())=some ((p:Int),(1:Int),(0:Int)):=by
    intro r;induction r with
    |zero =>
     intro E;refine YF ?_;simp only[L,Kt,show(0:Int)<=(p:Int)from by omega,Uk,Zv];rw[H,Bq,Uc rfl]
    |succ r I =>
     intro E;have t:l[p+(r+1)]?=some (l[p+(r+1)]'E):=Ua _;generalize l[p+(r+1)]'E=y at t;have C:=ZlO g (show p<p+(r+1) by omega) H t;refine(YW ?_).trans (I (by omega));simp only[L,show(0:Int)<=((p+(r+1):Nat):Int)from by omega,Uk,Zv,t,Bq];rw[Qu,Qu,QP,show((p+(r+1):Nat):Int)-1=((p+r:Nat):Int) by omega]
   have:=key (l.length-1-p) (by omega);rw[show p+(l.length-1-p)=l.length-1 by omega]at this;rw[QP,show(l.length:Int)-1=((l.length-1:Nat):Int) by omega];exact this
  ·rw[Uc (UJ (show l[p]?=some c from H))]
   rfl
 ·obtain⟨u,f,G,P⟩:=H
  have B:=(Ub.1 f).1;have e:=J.btw g ⟨u,f,G,P⟩;subst e;have M:=bd u;have N:=bd f;have D:¬l[j+1]?=some c:=λq=>by rw[f]at q;injection q with q;omega
  refine⟨(j:Int),z-c,c-y,⟨by omega,by omega,λq=>by omega,by omega,by omega,by omega⟩,?_,?_⟩
  ·have key:∀(r:Nat),j+r<l.length->Zt (λv=>J2 l x X d v.1) (((j+r:Nat):Int),())=some ((j:Int),z-c,c-y):=by
    intro r;induction r with
    |zero =>
     intro E;refine YF ?_;simp only[L,Kt,show(0:Int)<=(j:Int)from by omega,Uk,Zv];rw[u,Bq,Qu,Uc G,Xd (show j<=1048576 by omega),Zv,f,Bq,QP,QP]
    |succ r I =>
     intro E;have m:l[j+(r+1)]?=some (l[j+(r+1)]'E):=Ua _;generalize l[j+(r+1)]'E=w at m;have C:z<=w:=by
      by_cases q:r=0
      ·subst q;rw[f]at m;injection m with m;omega
      ·have:=ZlO g (show j+1<j+(r+1) by omega) f m;omega
     refine(YW ?_).trans (I (by omega));simp only[L,show(0:Int)<=((j+(r+1):Nat):Int)from by omega,Uk,Zv,m,Bq];rw[Qu,Qu,QP,show((j+(r+1):Nat):Int)-1=((j+r:Nat):Int) by omega]
   have:=key (l.length-1-j) (by omega);rw[show j+(l.length-1-j)=l.length-1 by omega]at this;rw[QP,show(l.length:Int)-1=((l.length-1:Nat):Int) by omega];exact this
  ·rw[Ue (by rw[Ul];exact D),Zv,f,Bq,QP (n:=((j+1:Nat):Int)-1),show((j+1:Nat):Int)-1=(j:Int) by omega,Zv,u,Bq,QP,QP,QP]
   unfold wl;rw[Qu];simp only[Option.some.injEq,Prod.mk.injEq];refine⟨?_,by omega⟩;rw[show((j+1:Nat):Int)=(j:Int)+1 by omega]
theorem ZhK (a b m:Int):ZbZ a b m=Y3 a b m:=by
 unfold ZbZ Y3;grind
theorem Zp3 {b m:Int} (H:0<b) (j:-4000000000000000000<=a) (i:a<=4000000000000000000) (Q:m=0\/m=1):∃r,Y3 a b m=some r/\∀M:Int,0<=M->M*b<=4000000000000000000->(a<=M*b->r<=M)/\(-(M*b)<=a->-M<=r)/\(0<=a->0<=r):=by
 have e:=Int.mul_tdiv_add_tmod a b;have k:=KC a H;have l:=Int.lt_tmod_of_pos a H;have up:∀M:Int,a<=M*b->Int.tdiv a b<=M/\(0<Int.tmod a b->Int.tdiv a b+1<=M):=λM h=>by
  constructor
  ·refine Uz λq=>?_
   have:=KF (show M+1<=Int.tdiv a b by omega) (show 0<=b by omega);grind
  ·intro f
   refine Uz λq=>?_;have:=KF (show M<=Int.tdiv a b by omega) (show 0<=b by omega);grind
 have o:∀M:Int,-(M*b)<=a->-M<=Int.tdiv a b/\(Int.tmod a b<0->-M<=Int.tdiv a b-1):=λM h=>by
  constructor
  ·refine Uz λq=>?_
   have:=KF (show Int.tdiv a b<=-(M+1) by omega) (show 0<=b by omega);grind
  ·intro f
   refine Uz λq=>?_;have:=KF (show Int.tdiv a b<=-M by omega) (show 0<=b by omega);grind
 have B:Int.tdiv a b<=4000000000000000000/\-4000000000000000000<=Int.tdiv a b:=by
  have d:(4000000000000000000:Int)<=4000000000000000000*b:=by omega
  have:=up 4000000000000000000 (by omega);have:=o 4000000000000000000 (by omega);omega
 have N:0<=a->0<=Int.tdiv a b/\¬Int.tmod a b<0:=λh=>by
  have:=KW b h;have:=Int.tdiv_nonneg h (show 0<=b by omega);omega
 unfold Y3;rw[QQ,QP (n:=Int.tdiv a b)];by_cases d:Int.tmod a b<0
 ·rw[Uc d]
  by_cases g:m=0
  ·rw[Uc g,QP]
   grind
  ·rw[Ue g,Ue (show ¬(0:Int)<Int.tmod a b by omega)]
   grind
 ·rw[Ue d]
  by_cases f:(0:Int)<Int.tmod a b
  ·rw[Uc f]
   by_cases c:m=1
   ·rw[Uc c,QP]
    grind
   simp_all
  ·rw[Ue f]
   grind
def ZmB (t:ZH) (i k:Int):Int:=(atI (Gr t) (i*((Gq t).length:Int)+k)).getD 0
def tm (t:ZH) (i k a c:Int):Int:=if 0<a*c then ZmB t i k*(a*c)else 0
variable {k:Int}
theorem ZqQ (h:Jk t) (I:0<=i) (i1:i<(GT t).length) (k0:0<=k) (k1:k<(Gq t).length) :
  atI (Gr t) (i*((Gq t).length:Int)+k)=some (ZmB t i k)/\(-1000000<=ZmB t i k/\ZmB t i k<=1000000)/\0<=i*((Gq t).length:Int)/\i*((Gq t).length:Int)<=16:=by
 obtain⟨d,f,g,a⟩:=h;have b:=Zim I (show i<=4 by have:=d.2.1;omega) (show(0:Int)<=((Gq t).length:Int) by omega) (show((Gq t).length:Int)<=4 by have:=f.2.1;omega);have H:i*((Gq t).length:Int)+k<(Gr t).length:=by
  have e:=Kq (show i+1<=((GT t).length:Int) by omega) (show(0:Int)<=((Gq t).length:Int) by omega);grind
 obtain⟨x,Z,G⟩:=Zjv (l:=Gr t) (i:=i*((Gq t).length:Int)+k) (by omega) H;have Q:=a x (Ud G);have e:ZmB t i k=x:=by unfold ZmB;rw[Z];rfl
 grind
theorem Zs9 (h:Jk t) (l:0<a->0<=i/\i<(GT t).length) (b:0<c->0<=k/\k<(Gq t).length) (a0:0<=a:=by omega) (c0:0<=c:=by omega):-(1000000*(a*c))<=tm t i k a c/\tm t i k a c<=1000000*(a*c):=by
 unfold tm;by_cases q:0<a*c
 ·rw[Uc q]
  have m:0<a:=by
   grind
  have H:0<c:=by
   grind
  obtain⟨_,⟨b1,N⟩,_⟩:=ZqQ h (l m).1 (l m).2 (b H).1 (b H).2;exact ZnZ b1 N
 ·rw[Ue q]
  have:=Hw a0 c0;omega
theorem ZBu:tm t i k a 0=0:=by unfold tm;grind
theorem Zuq:tm t i k 0 c=0:=by unfold tm;grind
def Zvr (t:ZH) (j a b k c d:Int):Int:=tm t j k a c+tm t j (k+1) a d+(tm t (j+1) k b c+tm t (j+1) (k+1) b d)
variable {w:List Zbo×Int} {v1:Int}
theorem ZnP (h:Jk t) {v3:Int} (I:0<=i) (i1:i<(GT t).length) (A0:0<A) (A1:A<=100000) (H:atI w.1 v3=some (k,c,())) (a:v3<w.1.length) (m:v3<=10) (D:0<=v3) (k0:0<=k) (k1:k<(Gq t).length) (c0:0<c:=by omega) (c1:c<=100000:=by omega) (s1:-100000000000000000<=s:=by omega) (s2:s<=100000000000000000:=by omega) :
  XV t w v1 (i,A,()) s v3=some (.inl (s+tm t i k A c,v3+1,())):=by
 obtain⟨Z,⟨b1,N⟩,b,Q⟩:=ZqQ h I i1 k0 k1;have R:=h.2.1.2.1;have p:=Zim (show 0<=A by omega) A1 (show 0<=c by omega) c1;have P:0<A*c:=Int.mul_pos A0 c0;have q:=ZnZ b1 N (show 0<=A*c by omega);have d:=ZnZ b1 N (show 0<=A by omega);have e:tm t i k A c=ZmB t i k*(A*c):=by unfold tm;rw[Uc P]
 simp only[XV,Uc a,H,Bq];show(atI (Gr t) (Wq (Wq (i*((Gq t).length:Int))+k))).bind _=_;rw[QP (n:=i*((Gq t).length:Int)),QP (n:=i*((Gq t).length:Int)+k),Z,Bq];show some (Sum.inl (Wq (s+Wq (Wq (ZmB t i k*A)*c)),Wq (v3+1),()))=_;rw[QP (n:=ZmB t i k*A),Int.mul_assoc,QP (n:=ZmB t i k*(A*c)),QP (n:=s+ZmB t i k*(A*c)),QP (n:=v3+1),e]
theorem ZtM {v3:Int} {x:Zbo} (a:v3=w.1.length):XV t w v1 x s v3=some (.inr (.inl (s,Wq (v1+1),()))):=by
 simp only[XV,Ue (show ¬v3<(w.1.length:Int) by omega)]
theorem ZtN (h:Jk t) {d:Int} (H:w.1=wl k c d) (e:ZC3 (Gq t) k c d) (I:0<=i) (i1:i<(GT t).length) (A0:0<A:=by omega) (A1:A<=100000:=by omega) (s1:-50000000000000000<=s:=by omega) (s2:s<=50000000000000000:=by omega) :
  Zt (λv=>XV t w v1 (i,A,()) v.1 v.2.1) (s,(0:Int),())=some (.inl (s+(tm t i k A c+tm t i (k+1) A d),Wq (v1+1),())):=by
 have j:=e.ab;have L:=e.a0;have l:=e.b0;have b:=e.j0;have X:=e.jl;have p:=Zim (show 0<=A by omega) A1 (show 0<=c by omega) (show c<=100000 by omega);have q:=Zs9 h (i:=i) (k:=k) (a:=A) (c:=c) (λ_=>⟨I,i1⟩) (λ_=>⟨b,X⟩);unfold wl at H;by_cases f:d=0
 ·rw[Uc f]at H
  subst f;refine(YW (v':=(s+tm t i k A c,(1:Int),())) ?_).trans (YF ?_)
  ·exact ZnP (s:=s) (v3:=0) h I i1 A0 A1 (by rw[H];rfl) (by grind) (by omega) (by omega) b X L
  ·rw[ZBu,K2]
   exact ZtM (by rw[H];rfl)
 ·rw[Ue f]at H
  have g:=e.jb (by omega);refine(YW (v':=(s+tm t i k A c,(1:Int),())) ?_).trans ((YW (v':=(s+tm t i k A c+tm t i (k+1) A d,(2:Int),())) ?_).trans (YF ?_))
  ·exact ZnP (s:=s) (v3:=0) h I i1 A0 A1 (by rw[H];rfl) (by grind) (by omega) (by omega) b X L
  ·exact ZnP (s:=s+tm t i k A c) (v3:=1) h I i1 A0 A1 (by rw[H];rfl) (by grind) (by omega) (by omega) (by omega) g
  ·rw[<-Int.add_assoc]
   exact ZtM (by rw[H];rfl)
theorem Zr1 (h:Jk t) {j:Int} {v3 W1:Int} (v:v1=0\/v1=1) (d:v3=0\/v3=1) (f:0<=j) (r:0<a->j+v1<(GT t).length) (b:j<=4) (g:0<=k) (e:0<c->k+v3<(Gq t).length) (a0:0<=a) (a1:a<=100000) (c0:0<=c:=by omega) (c1:c<=100000:=by omega) (s1:-100000000000000000<=s:=by omega) (s2:s<=100000000000000000:=by omega) :
  (if (0:Int)<Wq (a*c) then
     (atI (Gr t) (Wq (Wq (Wq (Wq (j+v1)*(↑(List.length (Gq t)):Int))+k)+v3))).bind λX =>
     some (Sum.inl (Wq (s+Wq (Wq (a*c)*X)),Wq (v3+(1:Int)),()))
    else
     some (.inl (s,Wq (v3+(1:Int)),())):Option ((Int×Int×Unit) ⊕ ((Int×Int×Unit) ⊕ Int)))=some (.inl (s+tm t (j+v1) (k+v3) a c,v3+1,())):=by
 have p:=Zim a0 a1 c0 c1;rw[QP (n:=a*c),QP (n:=v3+1)];by_cases P:0<a*c
 ·have m:0<a:=by
   grind
  have H:0<c:=by
   grind
  obtain⟨Z,⟨b1,N⟩,B,Q⟩:=ZqQ h (i:=j+v1) (k:=k+v3) (by omega) (r m) (by omega) (e H);have R:=h.2.1.2.1;have K:=e H;have q:=ZnZ b1 N (show 0<=a*c by omega);rw[Uc P,QP (n:=j+v1),QP (n:=(j+v1)*((Gq t).length:Int)),QP (n:=(j+v1)*((Gq t).length:Int)+k),Int.add_assoc,QP (n:=(j+v1)*((Gq t).length:Int)+(k+v3)),Z,Bq];unfold tm;rw[Uc P,Int.mul_comm (a*c),QP (n:=ZmB t (j+v1) (k+v3)*(a*c)),QP]
 ·rw[Ue P]
  unfold tm;grind
theorem Zum (h:Jk t) {j b d:Int} (H:ZC3 (GT t) j a b) (f:ZC3 (Gq t) k c d) (l:v1=0/\A=a\/v1=1/\A=b) (s1:-50000000000000000<=s:=by omega) (s2:s<=50000000000000000:=by omega) :
  Zt (λv=>Qk t (j,a,b) (k,c,d) v1 v.1 v.2.1) (s,(0:Int),())=some (.inl (s+(tm t (j+v1) k A c+tm t (j+v1) (k+1) A d),Wq (v1+1),())):=by
 have r:=H.ab;have u:=H.a0;have w:=H.b0;have J:=H.j0;have x:=H.jl;have m:=H.jb;have k1:=f.ab;have y:=f.a0;have Q:=f.b0;have n:=f.j0;have o:=f.jl;have K:=f.jb;have R:=h.1.2.1;have A0:0<=A/\A<=100000/\(0<A->j+v1<(GT t).length)/\0<=j+v1:=by
  rcases l with⟨rfl,rfl⟩|⟨rfl,rfl⟩
  ·exact⟨by omega,by omega,λ_=>by omega,by omega⟩
  ·exact⟨by omega,by omega,λq=>m q,by omega⟩
 obtain⟨A1,A2,A3,A4⟩:=A0;have p:=Zim A1 A2 (show 0<=c by omega) (show c<=100000 by omega);have q:=Zs9 h (i:=j+v1) (k:=k) (a:=A) (c:=c) (λz=>⟨A4,A3 z⟩) (λ_=>⟨n,o⟩) A1;have p2:=Zim A1 A2 (show 0<=d by omega) (show d<=100000 by omega);have B:=Zs9 h (i:=j+v1) (k:=k+1) (a:=A) (c:=d) (λz=>⟨A4,A3 z⟩) (λz=>⟨by omega,K z⟩) A1;have g:v1=0\/v1=1:=by omega
 refine(YW (v':=(s+tm t (j+v1) (k+0) A c,0+1,())) ?_).trans ((YW (v':=(s+tm t (j+v1) (k+0) A c+tm t (j+v1) (k+1) A d,1+1,())) ?_).trans (YF ?_))
 ·have e:=Zr1 h (v1:=v1) (v3:=0) (s:=s) (W1:=0) (a:=A) (c:=c) g (.inl rfl) J A3 (by omega) n (λ_=>by omega) A1 A2
  show Qk t (j,a,b) (k,c,d) v1 s 0=_;unfold Qk;rw[Uc (by decide)];rcases l with⟨rfl,rfl⟩|⟨rfl,rfl⟩
  ·rw[Ue (by decide),Uc rfl];exact e
  ·rw[Uc rfl,Uc rfl];exact e
 ·rw[K2]
  have e:=Zr1 h (v1:=v1) (v3:=1) (s:=s+tm t (j+v1) k A c) (W1:=0) (a:=A) (c:=d) g (.inr rfl) J A3 (by omega) n (λz=>K z) A1 A2;show Qk t (j,a,b) (k,c,d) v1 (s+tm t (j+v1) k A c) 1=_;unfold Qk;rw[Uc (by decide)];rcases l with⟨rfl,rfl⟩|⟨rfl,rfl⟩
  ·rw[Ue (by decide),Ue (by decide)];exact e
  ·rw[Uc rfl,Ue (by decide)];exact e
 ·rw[K2]
  show Qk t (j,a,b) (k,c,d) v1 (s+tm t (j+v1) k A c+tm t (j+v1) (k+1) A d) 2=_;unfold Qk;rw[Ue (by decide),Int.add_assoc]
theorem look_eq (h:Jk t) (s l:Int) {m:Int} (Q:m=0\/m=1):∃r,Zay t s l m=some r/\Zcd t s l m=some r/\-1000000<=r/\r<=1000000:=by
 obtain⟨j,a,b,f,e1,y⟩:=ZpJ h.1 s;obtain⟨k,c,d,H,B,C⟩:=ZpJ h.2.1 l;have L:=f.ab;have u:=f.a0;have M:=f.b0;have o:=f.j0;have x:=f.jl;have p:=f.jb;have k1:=H.ab;have G:=H.a0;have N:=H.b0;have K:=H.j0;have q:=H.jl;have v:=H.jb;have p1:=Zim (show 0<=a by omega) (show a<=100000 by omega) (show 0<=c by omega) (show c<=100000 by omega);have p2:=Zim (show 0<=a by omega) (show a<=100000 by omega) (show 0<=d by omega) (show d<=100000 by omega);have P:=Zim (show 0<=b by omega) (show b<=100000 by omega) (show 0<=c by omega) (show c<=100000 by omega);have O:=Zim (show 0<=b by omega) (show b<=100000 by omega) (show 0<=d by omega) (show d<=100000 by omega);have R:=Int.mul_pos u G;have T:=Zs9 h (i:=j) (k:=k) (a:=a) (c:=c) (λ_=>⟨o,x⟩) (λ_=>⟨K,q⟩);have U:=Zs9 h (i:=j) (k:=k+1) (a:=a) (c:=d) (λ_=>⟨o,x⟩) (λz=>⟨by omega,v z⟩);have V:=Zs9 h (i:=j+1) (k:=k) (a:=b) (c:=c) (λz=>⟨by omega,p z⟩) (λ_=>⟨K,q⟩);have W:=Zs9 h (i:=j+1) (k:=k+1) (a:=b) (c:=d) (λz=>⟨by omega,p z⟩) (λz=>⟨by omega,v z⟩);have I:(a+b)*(c+d)=a*c+a*d+(b*c+b*d):=by rw[Int.add_mul,Int.mul_add,Int.mul_add]
 obtain⟨r,E,D⟩:=Zp3 (a:=Zvr t j a b k c d) (b:=(a+b)*(c+d)) (m:=m) (by omega) (by unfold Zvr;omega) (by unfold Zvr;omega) Q;have g:=D 1000000 (by omega) (by omega);refine⟨r,?_,?_,g.2.1 (by unfold Zvr;omega),g.1 (by unfold Zvr;omega)⟩
 ·have J:∀v1:Int,v1=(wl j a b).length->YH t m (wl j a b,a+b) (wl k c d,c+d) (Zvr t j a b k c d) v1=some (.inr r):=λv1 F=>by
   simp only[YH,F,Ui,Uj];rw[QP (n:=(a+b)*(c+d)),ZhK,E,Bq]
  unfold Zay;rw[y,C,Bq,Bq];have r1:=ZtN h (w:=(wl k c d,c+d)) (v1:=0) (i:=j) (A:=a) (s:=0) rfl H o x u;by_cases S:b=0
  ·have e:wl j a b=[(j,a,())]:=by unfold wl;rw[Uc S]
   refine(YW (v':=(Zvr t j a b k c d,(1:Int),())) ?_).trans (YF (J 1 (by rw[e];rfl)));show YH t m (wl j a b,a+b) (wl k c d,c+d) 0 0=_;unfold YH;rw[Uc (by rw[e];show(0:Int)<((1:Nat):Int);omega),show atI (wl j a b,a+b).fst (0:Int)=some (j,a,()) by rw[e];rfl,Bq];refine r1.trans ?_;unfold Zvr;rw[S,Zuq,Zuq,K2,K2,Int.zero_add];rfl
  ·have e:wl j a b=[(j,a,()),(j+1,b,())]:=by unfold wl;rw[Ue S]
   have r2:=ZtN h (w:=(wl k c d,c+d)) (v1:=1) (i:=j+1) (A:=b) (s:=tm t j k a c+tm t j (k+1) a d) rfl H (by omega) (p (by omega));refine(YW (v':=(tm t j k a c+tm t j (k+1) a d,(1:Int),())) ?_).trans ((YW (v':=(Zvr t j a b k c d,(2:Int),())) ?_).trans (YF (J 2 (by rw[e];rfl))))
   ·show YH t m (wl j a b,a+b) (wl k c d,c+d) 0 0=_
    unfold YH;rw[Uc (by rw[e];show(0:Int)<((2:Nat):Int);omega),show atI (wl j a b,a+b).fst (0:Int)=some (j,a,()) by rw[e];rfl,Bq];refine r1.trans ?_;rw[Int.zero_add];rfl
   ·show YH t m (wl j a b,a+b) (wl k c d,c+d) (tm t j k a c+tm t j (k+1) a d) 1=_
    unfold YH;rw[Uc (by rw[e];show(1:Int)<((2:Nat):Int);omega),show atI (wl j a b,a+b).fst (1:Int)=some (j+1,b,()) by rw[e];rfl,Bq];exact r2
 ·unfold Zcd
  rw[e1,B,Bq,Bq];have r1:=Zum h f H (v1:=0) (s:=0) (A:=a) (.inl ⟨rfl,rfl⟩);have r2:=Zum h f H (v1:=1) (s:=tm t j k a c+tm t j (k+1) a d) (A:=b) (.inr ⟨rfl,rfl⟩);refine(YW (v':=(tm t j k a c+tm t j (k+1) a d,(1:Int),())) ?_).trans ((YW (v':=(Zvr t j a b k c d,(2:Int),())) ?_).trans (YF ?_))
  ·show QY t m (j,a,b) (k,c,d) 0 0=_
   unfold QY;rw[Uc (by decide)];refine r1.trans ?_;rw[K2,Int.zero_add];rfl
  ·show QY t m (j,a,b) (k,c,d) (tm t j k a c+tm t j (k+1) a d) 1=_
   unfold QY;rw[Uc (by decide)];exact r2
  ·show QY t m (j,a,b) (k,c,d) (Zvr t j a b k c d) 2=_
   unfold QY;rw[Ue (by decide)];show(Y3 (Zvr t j a b k c d) (Wq (Wq (a+b)*Wq (c+d))) m).bind _=_;rw[QP (n:=a+b),QP (n:=c+d),QP (n:=(a+b)*(c+d)),E];rfl
def sdl (w:ZC) (ld:List Int) (y:Int):Int:=(atI (ndl w ld) y).getD 0
variable {k:Nat} {w:ZC}
theorem Zsj.sink (h:Zsj b k w ld) (H:y∈Gv w):atI (ndl w ld) y=some (sdl w ld y)/\0<=sdl w ld y/\sdl w ld y<=301000000:=by
 have q:=h.snk y H;obtain⟨x,d,f⟩:=Zfk (l:=ndl w ld) q.1 (by rw[h.len];omega);have a:=h.bd x f;have e:sdl w ld y=x:=by unfold sdl;rw[d];rfl
 grind
theorem ZoI (h:Zsj b k w ld):XC b (k:Int)=some ((Gv w).map (sdl w ld)):=by
 unfold XC;rw[ZsF h,Bq,Zv,h.wire,Bq];have f:=h.few;refine ZtY (l:=Gv w) (by unfold Len;omega) (λo i=>(o,i,())) (g:=sdl w ld) (s0:=[]) (λm y e s H=>?_) ?_
 ·have Q:=(Ub.1 e).1
  have q:s.length<=1048576:=by grind
  simp only[XE,show(m:Int)<((Gv w).length:Int)from by omega,Uk,Zv,e,(h.sink (Ud e)).1,Bq];rw[Zk (by grind)]
 ·simp only[XE,Ui,Uj,Uq]
theorem ZqD (h:Zsj b k w ld) {e:Int} (Q:e=0\/e=1):∃f:Int->Int,(∀y∈Gv w,Y3 (sdl w ld y) 1000 e=some (f y)/\0<=f y/\f y<=301000)/\ZbC b (k:Int) e=some ((Gv w).map f):=by
 have d:=h.few;have key:∀y∈Gv w,Y3 (sdl w ld y) 1000 e=some ((Y3 (sdl w ld y) 1000 e).getD 0)/\0<=(Y3 (sdl w ld y) 1000 e).getD 0/\(Y3 (sdl w ld y) 1000 e).getD 0<=301000:=λy H=>by
  have q:=(h.sink H).2;obtain⟨r,E,c⟩:=Zp3 (a:=sdl w ld y) (b:=1000) (m:=e) (by omega) (by omega) (by omega) Q;have:=c 301000 (by omega) (by omega);grind
 refine⟨λy=>(Y3 (sdl w ld y) 1000 e).getD 0,key,?_⟩;unfold ZbC;rw[Zon h,Bq];refine ZtY (l:=Gv w) (by unfold Len;omega) (λo i=>(o,i,())) (g:=λy=>(Y3 (sdl w ld y) 1000 e).getD 0) (s0:=[]) (λm y H s q=>?_) ?_
 ·have Q:=(Ub.1 H).1
  have j:s.length<=1048576:=by grind
  simp only[ZaD,Zv,h.wire,show(m:Int)<((Gv w).length:Int)from by omega,Uk,H,(h.sink (Ud H)).1,Bq];rw[(key y (Ud H)).1,Bq,Zk (by grind)];rfl
 ·simp only[ZaD,Zv,h.wire,Bq,Ui,Uj,Uq]
variable {l:List α}
theorem Zmp {x:α} (Z:l[k]?=some x) (g:p x=true) (f:∀(j:Nat) (y:α),j<k->l[j]?=some y->p y=false):ZaI p l=(k:Int):=by
 have H:=(Ub.1 Z);have:l.findIdx? p=some k:=by
  rw[U9];refine⟨H.1,by rw[H.2];exact g,λj b=>?_⟩;have:=f j (l[j]'(by have:=H.1;omega)) b (Ua _);simp[this]
 unfold ZaI;rw[this]
theorem Zmd (d:Ze) (n:Int) (h:Few d):Zc1 d n=some (ZaI (λx:Pl=>decide (x.2.2.1=n)&&x.2.2.2.1) (ZB d)):=by
 have l:=YT h;unfold Zc1;rw[Y5 d h,Bq];refine Jh (out:=λi=>i) (show Len (ZB d) by show List.length _<=_;omega) (λk x Z=>?_) ?_
 ·have H:=(Ub.1 Z).1
  simp only[ZcK,show(k:Int)<((ZB d).length:Int)from by omega,Uk,Zv,Z,Bq,Up,Ul];split
  ·rename_i e1
   split
   ·rename_i f;rw[Uc ⟨e1,f⟩]
   ·rename_i f;rw[Ue (λq=>f q.2)]
  ·rename_i e1;rw[Ue (λq=>e1 q.1)]
 ·simp only[ZcK,Ui,Uj]
variable {i:Nat} {x:Zp} {a:ZI}
theorem Zsx (p:Zq1 a) (h:Zig a d x) (T:(Gu x).length<=1048576):((Zah i x).filter (λy=>y.2.2.2.1)).map (λy=>y.2.2.1)=[Zb6 x]:=by
 obtain⟨_,⟨c,o,W⟩,_⟩:=h;have s:2<=(K6 c).length:=(p.2.1 c (Ud o)).2.1.1;unfold Zah Zb6;rw[Zhm T];generalize f:Gu x=l;rw[f]at W;have b:l.length≠0:=by omega
 have g:∀(l:List Int) (m n:Nat),m+l.length=n+1->l.length≠0->((cat (λj N=>[((i:Int),(j:Int),N,decide ((j:Int)=(n:Int)),())]) m l).filter (λy:Pl=>y.2.2.2.1)).map (λy=>y.2.2.1)=[l.getLastD 0]:=by
  intro l;induction l with
  |nil=>intro m n _ k;simp at k
  |cons y r I =>
   intro m n Q _;by_cases E:r=[]
   ·subst E
    simp only[Uf,Ug]at Q;have:(m:Int)=(n:Int):=by omega
    simp[cat,this]
   ·have A:r.length≠0:=λe=>E (UC e)
    simp only[Uf]at Q;have H:¬(m:Int)=(n:Int):=by omega
    have:=I (m+1) n (by omega) A;simp only[cat,U0,Uq];rw[List.filter_cons_of_neg (by simp[H]),this];cases r with
    |nil=>exact absurd rfl E
    |cons z q=>simp[List.getLastD_cons]
 exact g l 0 (l.length-1) (by omega) b
theorem Zsy (j:Nat) (p:Y8):((Zgq j p).filter (λy=>y.2.2.2.1)).map (λy=>y.2.2.1)=if GD p=1 then[GM p]else[]:=by
 unfold Zgq;by_cases h:GD p=1
 ·simp[h]
 ·simp[h]
theorem ZuD (h:Zbx a d) (T:sm Qv d):((ZB d).filter (λy=>y.2.2.2.1)).map (λy=>y.2.2.1)=ZDj d:=by
 unfold ZB ZDj;rw[List.filter_append,Kp];congr 1
 ·have:∀(l:List Zp) (m:Nat),(∀x∈l,Zig a d x/\(Gu x).length<=1048576)->((cat Zah m l).filter (λy=>y.2.2.2.1)).map (λy=>y.2.2.1)=l.map Zb6:=by
   intro l;induction l with
   |nil=>intro m _;rfl
   |cons x r i =>
    intro m q;have Z:=q x (by simp);simp only[cat,List.filter_append,Kp,Kv];rw[Zsx h.1 Z.1 Z.2,i (m+1) (λy e=>q y (by simp[e]))];rfl
  exact this _ 0 (λx Z=>⟨h.2.2.1 x Z,ZK (ZpC (Zoj (Zjh T).1 Z)).2⟩)
 ·have:∀(l:List Y8) (m:Nat),((cat Zgq m l).filter (λy=>y.2.2.2.1)).map (λy=>y.2.2.1)=(l.filter (λp=>decide (GD p=1))).map GM:=by
   intro l;induction l with
   |nil=>intro m;rfl
   |cons p r i =>
    intro m;simp only[cat,List.filter_append,Kp];rw[Zsy,i (m+1)];by_cases L:GD p=1
    ·simp[L]
    ·simp[L]
  exact this _ 0
theorem Zpf {a b:α} (V:i<j) (m:l[i]?=some a) (h:l[j]?=some b) (pa:p a=true) (pb:p b=true):2<=l.countP p:=by
 have e:l.countP p=(l.take j).countP p+(l.drop j).countP p:=by rw[<-KA,Kz]
 have d:0<(l.take j).countP p:=KJ.2 ⟨a,UA.2 ⟨i,by rw[UB,Uc V];exact m⟩,pa⟩;have f:0<(l.drop j).countP p:=KJ.2 ⟨b,UA.2 ⟨0,by rw[Km];exact h⟩,pb⟩;omega
def Ztw (n:Int) (x:Pl):Bool:=decide (x.2.2.1=n)&&x.2.2.2.1
def ZhL (d:Ze) (n:Int):Int:=ZaI (Ztw n) (ZB d)
theorem Zv6 (h:Zbx a d) (T:sm Qv d) (b:v<(Gp d).length):(ZB d).countP (Ztw (v:Int))=1:=by
 have H:=h.2.2.2.2 _ (Ud (Zkv (s:=ZDj d) b));rw[<-ZuD h T,List.countP_map,List.countP_filter]at H;have e:(ZB d).countP (Ztw (v:Int))=(ZB d).countP (λy=>((λx=>decide (x=(v:Int)))∘λy:Pl=>y.2.2.1) y&&y.2.2.2.1):=rfl;rw[e];omega
theorem Ztx (h:Zbx a d) (T:sm Qv d) (e:v<(Gp d).length:=by omega) :
  ∃(q:Nat) (y:Pl),(ZB d)[q]?=some y/\Ztw (v:Int) y=true/\ZhL d (v:Int)=(q:Int)/\∀(p:Nat) (z:Pl),(ZB d)[p]?=some z->Ztw (v:Int) z=true->p=q:=by
 have i:=Zv6 h T e;obtain⟨y,f,g⟩:=KJ.1 (show 0<(ZB d).countP (Ztw (v:Int)) by omega);obtain⟨q,b⟩:=UA.1 f;have u:∀(p:Nat) (z:Pl),(ZB d)[p]?=some z->Ztw (v:Int) z=true->p=q:=by
  intro p z S H;rcases Nat.lt_trichotomy p q with t|l|t
  ·have:=Zpf t S b H g;omega
  ·exact l
  ·have:=Zpf t b S g H;omega
 refine⟨q,y,b,g,Zmp b g (λj z k S=>?_),u⟩;cases c:Ztw (v:Int) z
 ·rfl
 ·have:=u j z S c;omega
theorem ZiD (h:Xh b) (d:(Gl b)[k]?=some w):∃r,XC b (k:Int)=some r/\r.length<=1048576:=by
 have F:=h.ok.2.2 k w d;obtain⟨⟨Y,P⟩,lr,L,ls,A,O,N,n⟩:=F;obtain⟨nl,j,a⟩:=ZhW h d;have T:=ZK (ZrZ (Zg1 (Zkc h.sm).2.2 d)).2.2.2;have c:∃r,Qx b (k:Int)=some r/\r.length=(K5 w).length:=by
  unfold Qx;rw[Zv,d,Bq,j,Bq,QQ,QQ,QQ,QQ];refine ZdQ ((K5 w).length-1) (λm v=>v.1=((m+1:Nat):Int)/\v.2.1.length=(K5 w).length) _ ⟨rfl,by simp[a]⟩ ?_ ?_
  ·rintro m ⟨i,l,⟨⟩⟩ Q ⟨H,f⟩
   simp only at H f;subst H;left;have s:(K5 w)[m+1]?=some (K5 w)[m+1]:=Ua (by omega);generalize (K5 w)[m+1]=p at s;have t:=(A (m+1) p s).2 (by omega);obtain⟨q,e,_⟩:=Zfk (l:=l) t.1;have E:(GC w)[m+1]?=some (GC w)[m+1]:=Ua (by omega);have W:nl[m+1]?=some nl[m+1]:=Ua (by omega);have R:l[m+1]?=some l[m+1]:=Ua (by omega);simp only[XM,show((m+1:Nat):Int)<(l.length:Int)from by omega,Uk,Zv,s,e,E,W,R,Bq];exact⟨_,rfl,by rw[Xd],by simp[f]⟩
  ·rintro⟨i,l,⟨⟩⟩ ⟨H,f⟩
   simp only at H f;subst H;simp only[XM,show ¬(((K5 w).length-1+1:Nat):Int)<(l.length:Int)from by omega,Uj];grind
 obtain⟨nd,c,x⟩:=c;unfold XC;rw[c,Bq,Zv,d,Bq];refine Zdq (l:=Gv w) (λm v=>v.1.length=m/\v.2.1=(m:Int)) _ ⟨rfl,rfl⟩ ?_ ?_
 ·rintro m y ⟨o,i,⟨⟩⟩ z Q ⟨g,H⟩
  simp only at H g;subst H;have u:=n y (Ud z);obtain⟨q,e,_⟩:=Zfk (l:=nd) u.1;simp only[XE,show(m:Int)<((Gv w).length:Int)from by omega,Uk,Zv,z,e,Bq];rw[Zk (by simp;omega)];exact⟨_,rfl,by simp[g],by rw[Xd]⟩
 ·rintro⟨o,i,⟨⟩⟩ ⟨g,H⟩
  simp only at H g;subst H;simp only[XE,Ui,Uj];grind
theorem Zox (a:ZL):∃r,QZ a=some r/\r.length<=4:=by
 unfold QZ;repeat' split
 all_goals grind
theorem ZpV (h:Xh b) (Z:x∈K4 (K3 b)) (f:Int):∃r,Q0 b x f=some r/\r.length<=32:=by
 obtain⟨q,⟨c,a,g⟩,_⟩:=h.ok.1.2.2.1 x Z;have t:=(h.ok.1.1.2.1 c (Ud a)).2.2.1.1;unfold Q0;rw[Qt q.1 a,Bq];refine Zdq (l:=Ge c) (λm v=>v.1.length<=4*m/\v.2.1=(m:Int)) _ ⟨by simp,rfl⟩ ?_ ?_
 ·rintro m y ⟨o,i,⟨⟩⟩ s Q ⟨d,H⟩
  simp only at H d;subst H;obtain⟨T,e,p⟩:=Zox y;simp only[X6,show(m:Int)<((Ge c).length:Int)from by omega,Uk,Zv,s,e,Bq];obtain⟨r,j,R,rfl,k⟩:=Zdq (l:=T) (ρ:=(List Zn×Int×Unit)⊕List Zn) (step:=λv=>Xn f (m:Int) y T v.1 v.2.1) (v:=(o,(0:Int),())) (λn v=>v.1.length=o.length+n/\v.2.1=(n:Int)) (λr=>∃R,r=.inl R/\R.1.length<=4*(m+1)/\R.2.1=((m+1:Nat):Int)) ⟨rfl,rfl⟩
   (by
    rintro n z ⟨O,i,⟨⟩⟩ S W ⟨I,H⟩;simp only at H I;subst H;simp only[Xn,show (n:Int)<(T.length:Int) from by omega,Uk,Zv,S,Bq];rw[Zk (by simp;omega)];exact ⟨_,rfl,by simp[I];omega,by rw[Xd]⟩)
   (by
    rintro ⟨O,i,⟨⟩⟩ ⟨I,H⟩;simp only at H I;subst H;simp only[Xn,Ui,Uj];exact ⟨_,rfl,_,rfl,by simp only;omega,by rw[Xd]⟩)
  grind
 ·rintro⟨o,i,⟨⟩⟩ ⟨d,H⟩
  simp only at H d;subst H;simp only[X6,Ui,Uj];grind
def Short (l:List (List Int)) (n m:Nat):Prop:=l.length=n/\∀x∈l,x.length<=m
variable {l:List (List Int)}
theorem Short.set (h:Short l n m) {x:List Int} (Z:x.length<=m) (i:Nat):Short (l.set i x) n m:=by
 refine⟨by simp[h.1],λy e=>?_⟩;rcases Ke e with e|rfl
 ·exact h.2 y e
 ·exact Z
theorem Short.mono {p:Nat} (h:Short l n m) (g:m<=p):Short l n p:=⟨h.1,λx Z=>Kg (h.2 x Z) g⟩
theorem ZsT (h:Xh b):∃v,Vx b=some v/\ZG.ZB v=ZB (K3 b)/\Hf v=b:=by
 have B:=h.ok.1;have E:=B.few;have a5:=YT E;have a1:=E.insts;have a6:=h.ok.2.1;have a2:=B.2.1.2.1;unfold Vx;rw[Xm _ E,Bq];refine Zdq (l:=K4 (K3 b)) (λk v=>v.2.1=(k:Int)/\v.2.2.1.length<=32*k) _ ⟨rfl,by simp⟩ ?_ ?_
 ·rintro k x ⟨n,i,c,⟨⟩⟩ Z U ⟨H,hc⟩
  simp only at H hc;subst H;obtain⟨r,d,e⟩:=ZpV h (Ud Z) n;simp only[JO,show(k:Int)<((K4 (K3 b)).length:Int)from by omega,Uk,Zv,Z,d,Bq,Zao];rw[QQ];exact⟨_,rfl,by simp only;rw[Xd],by grind⟩
 ·rintro⟨n,i,c0,⟨⟩⟩ ⟨H,C⟩
  simp only at H C;subst H;simp only[JO,Ui,Uj];rw[QQ,QQ,QQ,QQ,QQ];obtain⟨r,d,R,rfl,e⟩:=Zdq (l:=ZB (K3 b)) (ρ:=(Int×Int×List Zn×Unit)⊕ZG) (step:=λv=>QO b (ZB (K3 b)) c0 v.1 v.2.1 v.2.2.1) (v:=((0:Int),List.replicate (Int.toNat (↑(List.length (Gl b)):Int)) (0:Int),List.replicate (Int.toNat (↑(List.length (Gl b)):Int)) (([]:List Int)),()))
   (λk v=>v.1=(k:Int)/\v.2.1.length=(Gl b).length/\Short v.2.2.1 (Gl b).length k)
   (λr=>∃R,r=.inr R/\ZG.ZB R=ZB (K3 b)/\Hf R=b)
   ⟨rfl,by simp,by simp,by
    grind⟩
   (by
    rintro k x ⟨i,l0,Y,⟨⟩⟩ Z U ⟨H,o,f⟩;simp only at H o f;subst H;have W:=Zn7 B (Ud Z);have a3:=W.2;simp only[QO,show(k:Int)<((ZB (K3 b)).length:Int)from by omega,Uk,Zv,Z,Bq];obtain⟨q,L,_⟩:=Zfk (l:=l0) W.1;obtain⟨p,J,K⟩:=Zfk (l:=Y) W.1 (by have:=f.1;omega);have a4:=f.2 p K;split
    ·rw[show atI l0 (Y6.net x)=some q from L,Bq]
     exact⟨_,rfl,by simp only;rw[Xd],by simp[o],f.mono (by omega)⟩
    ·rw[show atI Y (Y6.net x)=some p from J,Bq,Zk (by simp;omega)]
     exact ⟨_,rfl,by simp only;rw[Xd],o,(f.mono (by omega)).set (by simp;omega) _⟩)
   (by
    rintro⟨i,l0,Y,⟨⟩⟩ ⟨H,o,f⟩;simp only at H o f;subst H;simp only[QO,Ui,Uj];obtain⟨r,d,R,rfl,e⟩:=Zdq (l:=Gl b) (ρ:=(Int×List Int×List (List Int)×Unit)⊕((Int×Int×List Zn×Unit)⊕ZG)) (step:=λv=>QN b (ZB (K3 b)) l0 v.1 v.2.1 v.2.2.1 v.2.2.2.1 v.2.2.2.2.1) (v:=((0:Int),([]:List Int),([]:List (List Int)),c0,Y,()))
     (λk v=>v.1=(k:Int)/\v.2.1.length=k/\v.2.2.1.length=k/\v.2.2.2.1.length<=448+156*k/\Short v.2.2.2.2.1 (Gl b).length 78)
     (λr=>∃R,r=.inr (.inr R)/\ZG.ZB R=ZB (K3 b)/\Hf R=b)
     ⟨rfl,rfl,rfl,by simp only;omega,f.mono (by omega)⟩
     (by
      rintro k w ⟨i,c1,c2,O,P,⟨⟩⟩ M U ⟨H,G,u,S,g⟩;simp only at H G u S g;subst H;obtain⟨nl,I,V⟩:=ZhW h M;obtain⟨ed,D,T⟩:=ZiD h M;have a0:=(h.ok.2.2 k w M).1.1;have F:atI nl (0:Int)=some nl[0]:=(show nl[0]?=some nl[0]from Ua (by omega));obtain⟨X,t⟩:∃X,P[k]?=some X:=⟨_,Ua (by have:=g.1;omega)⟩;have N:=g.2 X (Ud t);simp only[QN,show(k:Int)<((Gl b).length:Int)from by omega,Uk,I,F,D,Bq,Zv,t];rw[Zk (by simp;omega),Zk (by simp;omega)];obtain⟨r,d,R,rfl,e⟩:=Zdq (l:=X) (ρ:=(Int×List Int×List (List Int)×List Zn×List (List Int)×Unit)⊕((Int×List Int×List (List Int)×Unit)⊕((Int×Int×List Zn×Unit)⊕ZG))) (step:=λv=>QM l0 (k:Int) c1 c2 P nl[0] ed X v.1 v.2.1) (v:=((0:Int),O,()))
       (λm v=>v.1=(m:Int)/\v.2.1.length=O.length+2*m)
       (λr=>∃R,r=.inl R/\R.1=((k+1:Nat):Int)/\R.2.1.length=k+1/\R.2.2.1.length=k+1/\R.2.2.2.1.length<=448+156*(k+1)/\Short R.2.2.2.2.1 (Gl b).length 78)
       ⟨rfl,rfl⟩
       (by
        rintro m y ⟨i,Q,⟨⟩⟩ hy hm ⟨H,A⟩;simp only at H A;subst H;simp only[QM,show(m:Int)<(X.length:Int)from by omega,Uk,Zv,hy,Bq];have s:l0[k]?=some l0[k]:=Ua (by omega);generalize l0[k]=z at s;obtain⟨r,d,R,rfl,e⟩:=ZdQ (step:=λv=>Qi l0 (k:Int) (m:Int) y v.1 v.2.1) 2 (λj v=>v.1=(j:Int)/\v.2.1.length=Q.length+j) (λr=>∃R,r=.inl R/\R.1=((m+1:Nat):Int)/\R.2.1.length=Q.length+2) (v:=((0:Int),Q,())) ⟨rfl,rfl⟩
         (by
          rintro j ⟨i,c5,⟨⟩⟩ hj ⟨H,a⟩;simp only at H a;subst H;left;simp only[Qi,show (j:Int)<(2:Int) from by omega,Uk,Zv,s,Bq];rw[Zk (by simp;omega)];exact ⟨_,rfl,by simp only;rw[Xd],by simp[a];omega⟩)
         (by
          rintro ⟨i,c5,⟨⟩⟩ ⟨H,a⟩;simp only at H a;subst H;simp only[Qi,show ¬((2:Nat):Int)<(2:Int) from by omega,Uj];exact ⟨_,rfl,_,rfl,by simp only;rw[Xd],a⟩)
        grind)
       (by
        rintro ⟨i,Q,⟨⟩⟩ ⟨H,A⟩;simp only at H A;subst H;simp only[QM,Ui,Uj];exact ⟨_,rfl,_,rfl,by simp only;rw[Xd],by simp[G],by simp[u],by simp only;omega,g.set N _⟩)
      grind)
     (by
      rintro ⟨i,c1,c2,O,P,⟨⟩⟩ ⟨H,G,u,S,g⟩;simp only at H;subst H;simp only[QN,Ui,Uj];grind)
    grind)
  grind
end Go.Proofs.YtjkccpcebpeadaaGreatDoor
