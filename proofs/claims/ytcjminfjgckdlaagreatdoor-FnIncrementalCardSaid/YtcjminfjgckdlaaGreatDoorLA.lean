/-
  Ground of the plain laws: loops by what they come to; small arithmetic.
-/
import Derived.Test.YtcjminfjgckdlaaGreatDoorE1
import Derived.IntWalk
import Derived.Test.YtcjminfjgckdlaaGreatDoorM
namespace Go.Proofs.YtcjminfjgckdlaaGreatDoor
set_option linter.unusedVariables false
set_option linter.unusedSimpArgs false
open Go Go.Sx
theorem YE {n:Int} (d:-9223372036854775808<=n:=by omega) (f:n<=9223372036854775807:=by omega):Wq n=n:=IntWalk.i64_in n ⟨d,f⟩
theorem QR{n:Int}(a:-9223372036854775808<=n:=by omega)(b:n<=9223372036854775807:=by omega):Wq n=n:=YE a b
variable {α:Type}
theorem Zo (l:List α) (k:Nat):atI l (k:Int)=l[k]?:=by simp[atI]
variable {l:List α} {i:Int} {x:α}
theorem Yw (m:0<=i) (h:l[i.toNat]?=some x):atI l i=some x:=by simp[atI,m,h]
theorem Zrt (m:0<=i) (d:i<l.length):∃x,atI l i=some x/\l[i.toNat]?=some x :=
 ⟨l[i.toNat]'(by omega),by simp[atI,m],Ua _⟩
variable {p:Prop}
theorem Zi (h:p) (a:Option α):Zt p a=a:=by
 unfold Zt;exact Uc h
theorem Ra{α:Type}{p:Prop}{a:Option α}(h:p:=by omega):Zt p a=a:=Zi h a
variable {τ ρ:Type} (n:Nat) (I:Nat->τ->Prop) {v:τ}
theorem Ze5 {step:τ->Option (τ⊕ρ)} (Q:ρ->Prop) (H:I 0 v)
  (s:∀k v,k<n->I k v->(∃v',step v=some (.inl v')/\I (k+1) v')\/∃r,step v=some (.inr r)/\Q r)
  (l:∀v,I n v->∃r,step v=some (.inr r)/\Q r):∃r,Zx step v=some r/\Q r:=by
 have:∀m k v,k+m=n->I k v->∃r,Zx step v=some r/\Q r:=by
  intro m;induction m with
  |zero =>
   intro k v a h;have:k=n:=by omega
   subst this;obtain⟨r,e,b⟩:=l v h;exact⟨r,Xi e,b⟩
  |succ m i =>
   intro k v a h;rcases s k v (by omega) h with⟨v',e,q⟩|⟨r,e,b⟩
   ·obtain⟨r,d,f⟩:=i (k+1) v' (by omega) q
    exact⟨r,by rw[Xk e];exact d,f⟩
   ·exact⟨r,Xi e,b⟩
 exact this n 0 v (by omega) H
theorem XC {step:τ->Option (τ⊕ρ)} (R:ρ) (H:I 0 v)
  (q:∀k v,k<n->I k v->(∃v',step v=some (.inl v')/\I (k+1) v')\/step v=some (.inr R))
  (l:∀v,I n v->step v=some (.inr R)):Zx step v=some R:=by
 obtain⟨r,d,f⟩:=Ze5 n I (λr=>r=R) H (λk v a m=>(q k v a m).elim .inl (λh=>.inr ⟨R,h,rfl⟩)) (λv m=>⟨R,l v m,rfl⟩);rw[d,f]
variable {k:Nat}
theorem Xa (h:l[k]?=some x):l.take (k+1)=l.take k++[x]:=by
 rw[List.take_add_one,h];rfl
theorem ZzZ {g:Nat->Option ρ} {v:ρ} (h:∃n,g n=some v) (N:∀n r,g n=some r->r=v):ZF9 g=some v:=by
 obtain⟨n,f⟩:=h;unfold ZF9;have l:∃r n,g n=some r:=⟨v,n,f⟩;grind
def sm:(t:Ty)->t.den->Prop
 | .str,s=>(s.length:Int)<=1048576
 | .sl t,l=>(l.length:Int)<=1048576/\∀x∈l,sm t x
 | .pair a b,d=>sm a d.1/\sm b d.2
 |_,_=>True
noncomputable def tr (p:Prop):Bool:=@decide p (Classical.propDecidable p)
variable {b:Bool}
theorem Zrm (h:b=true<->p):tr p=b:=by
 unfold tr;grind
theorem YL (p:Prop):tr p=true<->p:=by simp[tr]
theorem ZX (h:p):tr p=true:=(YL p).2 h
theorem Ym (h:¬p):tr p=false:=by simp[tr,h]
def within (n a b:Int):Bool:=decide (a<=n)&&decide (n<=b)
theorem ZcG (n a b:Int):Yy n a b=some (within n a b):=by
 unfold Yy within;split<;>simp[*]
theorem ZfB (n a b:Int):ZY n a b=some (within n a b):=by
 unfold ZY within;split<;>simp[*]
theorem within_iff (n a b:Int):within n a b=true<->a<=n/\n<=b:=by simp[within]
def ZiA (b:UInt8):Bool:=decide (97<=b.toNat)&&decide (b.toNat<=122)
def ZnF (b:UInt8):Bool:=decide (48<=b.toNat)&&decide (b.toNat<=57)
def Za6 (s:List UInt8):Bool:=decide (1<=s.length)&&decide (s.length<=8)&&s.all (λb=>ZiA b||ZnF b)&&(match s with
 |b::_=>ZiA b
 | []=>false)
def Ztu (s:List UInt8) (i:Nat):Prop:=∀(j:Nat) (b:UInt8),j<i->s[j]?=some b->(ZiA b||ZnF b)=true/\(j=0->ZiA b=true)
variable {s:List UInt8}
theorem ZvE {i:Nat} {x:UInt8} (h:Ztu s i) (l:s[i]?=some x) (d:(ZiA x||ZnF x)=true) (f:i=0->ZiA x=true):Ztu s (i+1):=by
 intro j b a H;by_cases e:j<i
 ·exact h j b e H
 ·have:j=i:=by omega
  subst this;rw[l]at H;injection H with H;subst H
  exact⟨d,f⟩
theorem ZsI (h:Ztu s s.length):Za6 s=(decide (1<=s.length)&&decide (s.length<=8)):=by
 unfold Za6;have d:s.all (λb=>ZiA b||ZnF b)=true:=by
  rw[KD];intro b a;obtain⟨j,H⟩:=UA.1 a;exact(h j b (Ub.1 H).1 H).1
 rw[d];cases s with
 |nil=>rfl
 |cons b r =>
  have:=(h 0 b (by simp) rfl).2 rfl;simp[this]
variable {j:Nat}
theorem ZxG {b:UInt8} (H:s[j]?=some b) (h:(ZiA b||ZnF b)=false\/j=0/\ZiA b=false):Za6 s=false:=by
 unfold Za6;rcases h with h|⟨rfl,h⟩
 ·have:s.all (λb=>ZiA b||ZnF b)=false:=by
   rw[List.all_eq_false];exact⟨b,Ud H,by simp[h]⟩
  simp[this]
 ·cases s with
  |nil=>simp at H
  |cons c r=>simp at H;subst H;simp[h]
variable (s:List UInt8)
theorem ZbS (q:s.length<=4611686018427387904):Zb3 s=some (Za6 s):=by
 unfold Zb3;refine XC s.length (λk v=>v.1=(k:Int)/\Ztu s k) _ ⟨rfl,λj b c=>by omega⟩ ?_ ?_
 ·rintro k ⟨i,⟨⟩⟩ a ⟨rfl,H⟩
  have l:s[k]?=some s[k]:=Ua a;generalize s[k]=x at l;simp only[ZfG,Zo,l,Bq,show(k:Int)<(s.length:Int)from by omega,Ui,YE (show(-9223372036854775808:Int)<=(k:Int)+1 by omega)];have ok:(ZiA x||ZnF x)=true->(k=0->ZiA x=true)->(((k:Int)+1,()):Int×Unit).1=((k+1:Nat):Int)/\Ztu s (k+1):=λd f=>⟨by simp,ZvE H l d f⟩;have bad:((ZiA x||ZnF x)=false\/k=0/\ZiA x=false)->(some (Sum.inr false):Option (Int×Unit⊕Bool))=some (Sum.inr (Za6 s)):=λh=>by rw[ZxG l h]
  simp only[ZiA,ZnF]at ok bad;repeat' split
  all_goals first
   |(left;refine⟨_,rfl,ok ?_ ?_⟩<;>simp<;>omega)
   |(right;refine bad ?_;first|(left;simp;omega)|(right;simp;omega))
 ·rintro⟨i,⟨⟩⟩ ⟨rfl,H⟩
  simp only[ZfG,Uf,Uh];rw[ZsI H];split
  ·rename_i h
   have d:1<=s.length:=by omega
   have f:decide ((s.length:Int)<=8)=decide (s.length<=8):=by rw[Ks];omega
   simp[d,f]
  ·have d:¬1<=s.length:=by omega
   simp[d]
theorem dropWhile_nil {p:UInt8->Bool}:∀(m:List UInt8),(∀x∈m.dropWhile p,p x=true)->∀x∈m,p x=true
 |[],_=>by simp
 |a::m,h=>by
  by_cases n:p a=true
  ·rw[List.dropWhile_cons_of_pos n]at h
   intro x l;rcases UB.1 l with rfl|l
   ·exact n
   ·exact dropWhile_nil m h x l
  ·rw[List.dropWhile_cons_of_neg n]at h
   exact absurd (h a (by simp)) n
theorem Zmc {p:UInt8->Bool}:∀(m:List UInt8),m.dropWhile p=[]<->∀x∈m,p x=true
 |[]=>by simp
 |a::m=>by
  by_cases n:p a=true
  ·rw[List.dropWhile_cons_of_pos n,Zmc m];simp[n]
  ·rw[List.dropWhile_cons_of_neg n];simp[n]
theorem ZAz (cs:List UInt8):Lib.trimS s cs=[]<->∀b∈s,cs.contains b=true:=by
 unfold Lib.trimS Lib.trimLeftS Lib.trimRightS;rw[Zmc];constructor
 ·intro h b H
  exact dropWhile_nil s.reverse (λx l=>h x (List.mem_reverse.2 l)) b (List.mem_reverse.2 H)
 ·intro h b H
  exact h b (List.mem_reverse.1 ((List.dropWhile_sublist _).subset (List.mem_reverse.1 H)))
def letters:List UInt8:=[97,98,99,100,101,102,103,104,105,106,107,108,109,110,111,112,113,114,115,116,117,118,119,120,121,122]
def Zjm:List UInt8:=letters++[48,49,50,51,52,53,54,55,56,57]
theorem ZDa {p:UInt8->Bool} (h:(List.range 256).all (λn=>p (UInt8.ofNat n))=true) (b:UInt8):p b=true:=by
 rw[KD]at h;have:=h b.toNat (KF.2 b.toNat_lt);simpa using this
theorem ZjX (b:UInt8):Zjm.contains b=(ZiA b||ZnF b):=by
 have:=ZDa (p:=λb=>Zjm.contains b==(ZiA b||ZnF b)) (by decide +kernel) b;simpa using this
theorem ZuA:Lib.trimS s Zjm=[]<->s.all (λb=>ZiA b||ZnF b)=true:=by
 rw[ZAz,KD];simp only[ZjX]
theorem Zsv (b:UInt8):decide (0<=(Lib.indexByte letters b:Int))=ZiA b:=by
 have:=ZDa (p:=λb=>decide (0<=(Lib.indexByte letters b:Int))==ZiA b) (by decide +kernel) b;simpa using this
theorem Zgp:Zes s=some (Za6 s):=by
 unfold Zes;rw[ZcG,Bq];split
 ·rename_i h
  rw[within_iff]at h;rw[Ra];split
  ·rename_i t
   have H:=(ZuA s).1 t;cases s with
   |nil=>simp at h
   |cons b r =>
    have e:atI (b::r) (0:Int)=some b:=rfl;rw[e,Bq];have E:((b.toNat:Int)).toNat.toUInt8=b:=by simp
    rw[E];have d:1<=(b::r).length:=by simp
    have f:(b::r).length<=8:=by omega
    have:=Zsv b;unfold letters at this;rw[this];simp only[Za6,H,UQ d,UQ f,Bool.true_and]
  ·rename_i t
   have H:¬s.all (λb=>ZiA b||ZnF b)=true:=λe=>t ((ZuA s).2 e);simp only[Za6,Bool.eq_false_iff.2 H,Bool.and_false,Bool.false_and]
 ·rename_i h
  rw[within_iff]at h;have:¬(1<=s.length/\s.length<=8):=by omega
  rw[eq_comm];congr 1;rw[Bool.eq_false_iff];intro a;simp only[Za6,Ur,Ul]at a;omega
variable (l:List (List UInt8))
theorem ZoX (s:List UInt8) (q:l.length<=4611686018427387904):∃r,Xe l s=some r/\(0<=r<->s∈l):=by
 unfold Xe;refine Ze5 l.length (λk v=>v.1=(k:Int)/\s ∉ l.take k) _ ⟨rfl,by simp⟩ ?_ ?_
 ·rintro k ⟨i,⟨⟩⟩ b ⟨rfl,a⟩
  have H:l[k]?=some l[k]:=Ua b;generalize l[k]=x at H;simp only[Xt,Zo,H,Bq,show(k:Int)<(l.length:Int)from by omega,Ui,YE (show(-9223372036854775808:Int)<=(k:Int)+1 by omega)];split
  ·rename_i e;subst e
   exact .inr ⟨_,rfl,λ_=>Ud H,λ_=>by simp⟩
  ·rename_i e
   exact .inl ⟨_,rfl,by simp,by rw[Xa H];simp[a,e]⟩
 ·rintro⟨i,⟨⟩⟩ ⟨rfl,a⟩
  simp only[Xt,Uf,Uh];refine⟨_,rfl,λh=>by omega,λh=>absurd h (by simpa using a)⟩
theorem ZlS (s:List UInt8) (q:l.length<=4611686018427387904):QH l s=some (decide (s∈l)):=by
 obtain⟨r,d,f⟩:=ZoX l s q;unfold QH;rw[d,Bq];simp only[f]
def JI (l:List (List UInt8)) (k:Nat):Prop:=∀(j:Nat) (s:List UInt8),j<k->l[j]?=some s->Za6 s=true/\s ∉ l.take j
theorem Zct (c:l.length<=4611686018427387904):ZaZ l=some (tr (JI l l.length)):=by
 unfold ZaZ;refine XC l.length (λk v=>v.1=(k:Int)/\JI l k) _ ⟨rfl,λj s b=>by omega⟩ ?_ ?_
 ·rintro k ⟨i,⟨⟩⟩ a ⟨rfl,H⟩
  have h:l[k]?=some l[k]:=Ua a;generalize l[k]=x at h;simp only[Zeq,Zo,h,Bq,show(k:Int)<(l.length:Int)from by omega,Ui,YE (show(-9223372036854775808:Int)<=(k:Int)+1 by omega),Zgp];split
  ·rename_i f
   rw[Ra,Ra];simp only[Up,Int.toNat_zero,KE,Nat.sub_zero];rw[ZlS _ _ (by simp only[Uj];omega),Bq];split
   ·rename_i R
    right;rw[Ym];intro r;exact(r k x a h).2 (by simpa using R)
   ·rename_i R
    refine .inl ⟨_,rfl,by simp,λj s b q=>?_⟩;by_cases e:j<k
    ·exact H j s e q
    ·have:j=k:=by omega
     subst this;rw[h]at q;injection q with q;subst q
     exact⟨f,by simpa using R⟩
  ·rename_i f
   right;rw[Ym];intro r;exact f (r k x a h).1
 ·rintro⟨i,⟨⟩⟩ ⟨rfl,H⟩
  simp only[Zeq,Uf,Uh];rw[ZX H]
def allIn (l:List Int) (o h:Int):Bool:=l.all (λn=>within n o h)
theorem ZdB (l:List Int) (o h:Int) (q:l.length<=4611686018427387904:=by omega):XT l o h=some (allIn l o h):=by
 have d:∃r,YI l (o,h,())=some r/\(0<=r<->allIn l o h=false):=by
  unfold YI;refine Ze5 l.length (λk v=>v.1=(k:Int)/\allIn (l.take k) o h=true) _ ⟨rfl,rfl⟩ ?_ ?_
  ·rintro k ⟨i,⟨⟩⟩ a ⟨rfl,s⟩
   have H:l[k]?=some l[k]:=Ua a;generalize l[k]=x at H;simp only[YX,Zf0,ZcG,Zo,H,Bq,show(k:Int)<(l.length:Int)from by omega,Ui,YE (show(-9223372036854775808:Int)<=(k:Int)+1 by omega)];cases c:within x o h
   ·refine .inr ⟨_,rfl,λ_=>?_,λ_=>by simp⟩
    rw[allIn,List.all_eq_false];grind
   ·refine .inl ⟨_,rfl,by simp,?_⟩
    rw[Xa H,allIn,List.all_append];simp only[allIn]at s;simp[s,c]
  ·rintro⟨i,⟨⟩⟩ ⟨rfl,s⟩
   rw[Uo]at s;simp only[YX,Uf,Uh];grind
 obtain⟨r,d,f⟩:=d;unfold XT Y7;grind
def Len {α:Type} (l:List α):Prop:=l.length<=4611686018427387904
variable {l:List α}
theorem Zyn (q:Len l) (H:k<=l.length:=by omega):Wq ((k:Int)+1)=((k+1:Nat):Int):=by
 have:l.length<=4611686018427387904:=q;rw[QR];simp
def Zao {α:Type} (p:α->Bool) (l:List α):Int:=match l.findIdx? p with
 |some i=>i
 |none=>-1
variable {p:α->Bool}
theorem Vi:0<=Zao p l<->l.any p=true:=by
 unfold Zao;grind
theorem QN (q:Len l) {step:Int×Unit->Option ((Int×Unit)⊕ρ)} {out:Int->ρ}
  (b:∀(k:Nat) (x:α),l[k]?=some x->step ((k:Int),())=some (if p x=true then .inr (out k)else .inl (Wq ((k:Int)+1),())))
  (H:step ((l.length:Int),())=some (.inr (out (-1)))):Zx step (0,())=some (out (Zao p l)):=by
 refine XC l.length (λk v=>v.1=(k:Int)/\∀x∈l.take k,p x=false) _ ⟨rfl,by simp⟩ ?_ ?_
 ·rintro k ⟨i,⟨⟩⟩ a ⟨h,s⟩
  simp only at h;subst h;have H:l[k]?=some l[k]:=Ua a;rw[b k _ H,Zyn q];split
  ·rename_i g
   right;have:l.findIdx? p=some k:=by
    rw[Ko];refine⟨a,g,λj c=>?_⟩;have:=s l[j] (UA.2 ⟨j,by grind⟩);simp[this]
   unfold Zao;rw[this]
  ·rename_i g
   refine .inl ⟨_,rfl,rfl,?_⟩;rw[Xa H];grind
 ·rintro⟨i,⟨⟩⟩ ⟨h,s⟩
  simp only at h;subst h;rw[Uo]at s;have:l.findIdx? p=none:=List.findIdx?_eq_none_iff.2 s;rw[H];unfold Zao;rw[this]
def foldI {α σ:Type} (f:Nat->α->σ->σ):Nat->List α->σ->σ
 |_,[],s=>s
 |k,x::r,s=>foldI f (k+1) r (f k x s)
theorem Zh7 {α σ:Type} (f:Nat->α->σ->σ):∀(l r:List α) (m:Nat) (s:σ),foldI f m (l++r) s=foldI f (m+l.length) r (foldI f m l s)
 |[],r,m,s=>by simp[foldI]
 |x::l,r,m,s=>by
  simp only[U4,foldI,Um,Zh7 f l r];grind
theorem ZfX {σ:Type} {f:Nat->α->σ->σ} (h:l[k]?=some x) (s:σ):foldI f 0 (l.take (k+1)) s=f k x (foldI f 0 (l.take k) s):=by
 have H:=(Ub.1 h).1;rw[Xa h,Zh7];simp only[foldI,Us,Uj];grind
variable {R:ρ}
theorem ZfY {σ:Type} (q:Len l) (p:σ->Int->τ) {f:Nat->α->σ->σ} {step:τ->Option (τ⊕ρ)} {s0:σ} (I:Nat->σ->Prop) (m:I 0 s0)
  (b:∀(k:Nat) (x:α) (s:σ),l[k]?=some x->I k s->s=foldI f 0 (l.take k) s0->step (p s (k:Int))=some (.inl (p (f k x s) (Wq ((k:Int)+1))))/\I (k+1) (f k x s))
  (h:∀s,I l.length s->s=foldI f 0 l s0->step (p s (l.length:Int))=some (.inr R)):Zx step (p s0 0)=some R:=by
 refine XC l.length (λk v=>v=p (foldI f 0 (l.take k) s0) (k:Int)/\I k (foldI f 0 (l.take k) s0)) _ ⟨rfl,m⟩ ?_ ?_
 ·rintro k _ a ⟨rfl,i⟩
  have h:l[k]?=some l[k]:=Ua a;obtain⟨d,H⟩:=b k _ _ h i rfl;rw[d,Zyn q];exact .inl ⟨_,rfl,by rw[ZfX h],by rw[ZfX h];exact H⟩
 grind
theorem ZpN {α β:Type} (g:α->β):∀(l:List α) (m:Nat) (a:List β),foldI (λ_ x s=>s++[g x]) m l a=a++l.map g
 |[],_,_=>by simp[foldI]
 |x::l,m,a=>by simp[foldI,ZpN g l]
variable {β:Type}
theorem ZwG (q:Len l) (p:List β->Int->τ) {g:α->β} {step:τ->Option (τ⊕ρ)} {s0:List β}
  (h:∀(k:Nat) (x:α),l[k]?=some x->∀s,s=s0++(l.take k).map g->step (p s (k:Int))=some (.inl (p (s++[g x]) (Wq ((k:Int)+1)))))
  (a:step (p (s0++l.map g) (l.length:Int))=some (.inr R)):Zx step (p s0 0)=some R:=by
 refine ZfY q p (f:=λ_ x s=>s++[g x]) (λ_ _=>True) trivial (λk x s H _ m=>⟨h k x H s (by rw[m,ZpN]),trivial⟩) (λs _ m=>?_);rw[m,ZpN];exact a
noncomputable def sel {ρ:Type} (P:Prop) (a b:ρ):ρ:=match tr P with
 |true=>a
 |false=>b
variable {P:Prop}
theorem QY (h:P) (a b:ρ):sel P a b=a:=by simp[sel,ZX h]
theorem Qs (h:¬P) (a b:ρ):sel P a b=b:=by simp[sel,Ym h]
theorem ZiV (P:Prop):sel P true false=tr P:=by
 by_cases h:P
 ·rw[QY h,ZX h]
 ·rw[Qs h,Ym h]
def Zee {α:Type} (l:List α) (P:Nat->α->Prop):Prop:=∀(k:Nat) (x:α),l[k]?=some x->P k x
variable {bad good:ρ}
theorem V3 (q:Len l) (P:Nat->α->Prop) {step:Int×Unit->Option ((Int×Unit)⊕ρ)}
  (e:∀(k:Nat) (x:α),l[k]?=some x->k<l.length->(∀(j:Nat) (y:α),j<k->l[j]?=some y->P j y)->(P k x->step ((k:Int),())=some (.inl (Wq ((k:Int)+1),())))/\(¬P k x->step ((k:Int),())=some (.inr bad)))
  (b:Zee l P->step ((l.length:Int),())=some (.inr good)):Zx step (0,())=some (sel (Zee l P) good bad):=by
 refine XC l.length (λk v=>v.1=(k:Int)/\∀(j:Nat) (y:α),j<k->l[j]?=some y->P j y) _ ⟨rfl,λj y g=>by omega⟩ ?_ ?_
 ·rintro k ⟨i,⟨⟩⟩ a ⟨H,s⟩
  simp only at H;subst H;have b:l[k]?=some l[k]:=Ua a;obtain⟨d,f⟩:=e k _ b a s;by_cases p:P k l[k]
  ·rw[d p,Zyn q]
   grind
  ·right
   rw[f p,Qs (λh=>p (h k _ b))]
 ·rintro⟨i,⟨⟩⟩ ⟨H,s⟩
  simp only at H;subst H;have c:Zee l P:=λk x a=>s k x (Ub.1 a).1 a;rw[b c,QY c]
theorem ZwE (m n:Nat) (H:m<=n) (b:n<=4611686018427387904) (P:Nat->Prop) {step:Int×Unit->Option ((Int×Unit)⊕ρ)}
  (q:∀k:Nat,m<=k->k<n->(∀j,m<=j->j<k->P j)->(P k->step ((k:Int),())=some (.inl (Wq ((k:Int)+1),())))/\(¬P k->step ((k:Int),())=some (.inr bad)))
  (x:(∀j,m<=j->j<n->P j)->step ((n:Int),())=some (.inr good)):Zx step ((m:Int),())=some (sel (∀j,m<=j->j<n->P j) good bad):=by
 refine XC (n-m) (λk v=>v.1=((m+k:Nat):Int)/\∀j,m<=j->j<m+k->P j) _ ⟨by simp,λj d f=>by omega⟩ ?_ ?_
 ·rintro k ⟨i,⟨⟩⟩ a ⟨l,s⟩
  simp only at l;subst l;obtain⟨d,f⟩:=q (m+k) (by omega) (by omega) s;by_cases p:P (m+k)
  ·rw[d p,QR]
   grind
  ·right
   rw[f p,Qs (λh=>p (h (m+k) (by omega) (by omega)))]
 ·rintro⟨i,⟨⟩⟩ ⟨l,s⟩
  simp only at l;subst l;have e:m+(n-m)=n:=by omega
  rw[e]at s ⊢;rw[x s,QY s]
theorem ZgD {l:List (List UInt8)} {v:List UInt8} (q:Len l):Xe l v=some (Zao (λx=>decide (v=x)) l):=by
 unfold Xe;refine QN (out:=λi=>i) q (λk x h=>?_) ?_
 ·have H:=(Ub.1 h).1
  simp only[Xt,Zo,h,Bq,show(k:Int)<(l.length:Int)from by omega,Ui,Ul];split<;>rfl
 ·simp only[Xt,Uf,Uh]
variable {l:List ZB} {f:Bool×Unit}
theorem Vw (q:Len l) (p:ZB->Bool) (g:∀x∈l,Zai x f.fst=some (p x)):Yd l f=some (Zao p l):=by
 unfold Yd;refine QN (out:=λi=>i) q (p:=p) (λk x h=>?_) ?_
 ·have H:=(Ub.1 h).1
  simp only[Yu,Zo,h,Bq,show(k:Int)<(l.length:Int)from by omega,Ui,g x (Ud h)];split<;>rfl
 ·simp only[Yu,Uf,Uh]
theorem Q8 (q:Len l) (p:ZB->Bool) (g:∀x∈l,Zai x f.fst=some (p x)):Z5 l f=some (l.any p):=by
 unfold Z5;rw[Vw q p g,Bq];congr 1;rw[KA,Ul,Vi]
theorem VR {l:List XF} {f:Unit} (q:Len l) (p:XF->Bool) (g:∀x∈l,Zfh x=some (p x)):Yl l f=some (Zao p l):=by
 unfold Yl;refine QN (out:=λi=>i) q (p:=p) (λk x h=>?_) ?_
 ·have H:=(Ub.1 h).1
  simp only[YD,Zo,h,Bq,show(k:Int)<(l.length:Int)from by omega,Ui,g x (Ud h)];split<;>rfl
 ·simp only[YD,Uf,Uh]
variable {l:List ZH} {f:ZH×Unit}
theorem VG (q:Len l) (p:ZH->Bool) (g:∀x∈l,VB x f.fst=some (p x)):Yh l f=some (Zao p l):=by
 unfold Yh;refine QN (out:=λi=>i) q (p:=p) (λk x h=>?_) ?_
 ·have H:=(Ub.1 h).1
  simp only[Yz,Zo,h,Bq,show(k:Int)<(l.length:Int)from by omega,Ui,g x (Ud h)];split<;>rfl
 ·simp only[Yz,Uf,Uh]
theorem Vb (q:Len l) (p:ZH->Bool) (g:∀x∈l,VB x f.fst=some (p x)):Z7 l f=some (l.any p):=by
 unfold Z7;rw[VG q p g,Bq];congr 1;rw[KA,Ul,Vi]
variable {f:Int×Unit}
theorem Jf (q:Len l) (p:ZH->Bool) (g:∀x∈l,Zei x f.fst=some (p x)):Yn l f=some (Zao p l):=by
 unfold Yn;refine QN (out:=λi=>i) q (p:=p) (λk x h=>?_) ?_
 ·have H:=(Ub.1 h).1
  simp only[YJ,Zo,h,Bq,show(k:Int)<(l.length:Int)from by omega,Ui,g x (Ud h)];split<;>rfl
 ·simp only[YJ,Uf,Uh]
theorem VK (q:Len l) (p:ZH->Bool) (g:∀x∈l,Zei x f.fst=some (p x)):Yi l f=some (l.any p):=by
 unfold Yi;rw[Jf q p g,Bq];congr 1;rw[KA,Ul,Vi]
variable {l:List Int} {f:Zb×Unit}
theorem VL (q:Len l) (p:Int->Bool) (g:∀x∈l,QO x f.fst=some (p x)):Yk l f=some (Zao p l):=by
 unfold Yk;refine QN (out:=λi=>i) q (p:=p) (λk x h=>?_) ?_
 ·have H:=(Ub.1 h).1
  simp only[YB,Zo,h,Bq,show(k:Int)<(l.length:Int)from by omega,Ui,g x (Ud h)];split<;>rfl
 ·simp only[YB,Uf,Uh]
theorem Vf (q:Len l) (p:Int->Bool) (g:∀x∈l,QO x f.fst=some (p x)):Ya l f=some (l.any p):=by
 unfold Ya;rw[VL q p g,Bq];congr 1;rw[KA,Ul,Vi]
variable {f:Unit}
theorem Za7 (q:Len l) (p:Int->Bool) (g:∀x∈l,Zej x=some (p x)):Y0 l f=some (Zao p l):=by
 unfold Y0;refine QN (out:=λi=>i) q (p:=p) (λk x h=>?_) ?_
 ·have H:=(Ub.1 h).1
  simp only[Xd,Zo,h,Bq,show(k:Int)<(l.length:Int)from by omega,Ui,g x (Ud h)];split<;>rfl
 ·simp only[Xd,Uf,Uh]
theorem Zav (q:Len l) (p:Int->Bool) (g:∀x∈l,Zej x=some (p x)):YN l f=some (l.any p):=by
 unfold YN;rw[Za7 q p g,Bq];congr 1;rw[KA,Ul,Vi]
theorem Vg {l:List Zj} {f:Int×Unit} (q:Len l) (p:Zj->Bool) (g:∀x∈l,ZgQ x f.fst=some (p x)):Yb l f=some (Zao p l):=by
 unfold Yb;refine QN (out:=λi=>i) q (p:=p) (λk x h=>?_) ?_
 ·have H:=(Ub.1 h).1
  simp only[Yp,Zo,h,Bq,show(k:Int)<(l.length:Int)from by omega,Ui,g x (Ud h)];split<;>rfl
 ·simp only[Yp,Uf,Uh]
theorem Qu {l:List Ze} {f:List UInt8×Unit} (q:Len l) (p:Ze->Bool) (g:∀x∈l,Zc6 x f.fst=some (p x)):ZW l f=some (Zao p l):=by
 unfold ZW;refine QN (out:=λi=>i) q (p:=p) (λk x h=>?_) ?_
 ·have H:=(Ub.1 h).1
  simp only[Z9,Zo,h,Bq,show(k:Int)<(l.length:Int)from by omega,Ui,g x (Ud h)];split<;>rfl
 ·simp only[Z9,Uf,Uh]
theorem Zhd {v:Int} (q:Len l):Xz l v=some (Zao (λx=>decide (v=x)) l):=by
 unfold Xz;refine QN (out:=λi=>i) q (λk x h=>?_) ?_
 ·have H:=(Ub.1 h).1
  simp only[Yv,Zo,h,Bq,show(k:Int)<(l.length:Int)from by omega,Ui,Ul];split<;>rfl
 ·simp only[Yv,Uf,Uh]
theorem Zga {v:Int} (q:Len l):Yj l v=some (decide (v∈l)):=by
 unfold Yj;rw[Zhd q,Bq];congr 1;rw[KA,Ul,Ul,Vi,KN];simp
variable {f:List Bool×ZO×Unit}
theorem Ju (q:Len l) (p:Int->Bool) (g:∀x∈l,VD x f.fst f.snd.fst=some (p x)):Yx l f=some (Zao p l):=by
 unfold Yx;refine QN (out:=λi=>i) q (p:=p) (λk x h=>?_) ?_
 ·have H:=(Ub.1 h).1
  simp only[YQ,Zo,h,Bq,show(k:Int)<(l.length:Int)from by omega,Ui,g x (Ud h)];split<;>rfl
 ·simp only[YQ,Uf,Uh]
theorem V9 (q:Len l) (p:Int->Bool) (g:∀x∈l,VD x f.fst f.snd.fst=some (p x)):ZR l f=some (l.any p):=by
 unfold ZR;rw[Ju q p g,Bq];congr 1;rw[KA,Ul,Vi]
theorem ZfU {a:Bool} (h:a=true<->b=true):a=b:=by grind
variable {Q:Prop}
theorem J6 (h:P<->Q):tr P=tr Q:=by rw[propext h]
def Inc (l:List Int):Prop:=∀(k:Nat) (x y:Int),l[k]?=some x->l[k+1]?=some y->x<y
def ZiI (l:List Int) (o h:Int):Prop:=∀x∈l,o<=x/\x<=h
variable (l:List Int) (o h:Int)
theorem Zl4:allIn l o h=true<->ZiI l o h:=by
 unfold allIn ZiI;rw[KD];simp only[within_iff]
theorem VE:Xp l=some (l.length:Int):=rfl
theorem ZgZ (q:Len l):VX l=some (tr (Inc l)):=by
 unfold VX;have a:l.length<=4611686018427387904:=q;by_cases m:l.length=0
 ·have:l=[]:=UG m
  subst this;rw[Xi (r:=true) (by rfl)];have m:Inc []:=λk x y h=>by simp at h
  rw[ZX m]
 have:=ZwE (ρ:=Bool) 1 l.length (by omega) a (λk=>∀x y,l[k-1]?=some x->l[k]?=some y->x<y) (step:=λv=>Vp l v.1) (bad:=false) (good:=true)
  (λk d f _=>by
   obtain⟨x,H⟩:∃x,l[k-1]?=some x:=⟨_,Ua (by omega)⟩;obtain⟨y,i⟩:∃y,l[k]?=some y:=⟨_,Ua f⟩;have E:Wq ((k:Int)-1)=((k-1:Nat):Int):=by rw[QR];omega
   simp only[Vp,show (k:Int)<(l.length:Int) from by omega,Ui,E,Zo,H,i,Bq];grind)
  (λ_=>by simp only[Vp,Uf,Uh])
 refine(show Zx (λv=>Vp l v.1) ((1:Int),())=_ from this).trans ?_;rw[ZiV];congr 1;refine J6 ⟨λh k x y H i=>?_,λh j d f x y H i=>?_⟩
 ·exact h (k+1) (by omega) (Ub.1 i).1 x y (by simpa using H) i
 ·exact h (j-1) x y H (by grind)
def ZgW (l:List Int):Prop:=1<=l.length/\l.length<=4/\ZiI l 0 100000/\Inc l
theorem Zlk (q:Len l):ZhF l=some (tr (ZgW l)):=by
 unfold ZhF;rw[VE,Bq,ZcG,Bq,ZdB l _ _ q,Bq,ZgZ l q,Bq];have e:tr (ZgW l)=(within (l.length:Int) 1 4&&allIn l 0 100000&&tr (Inc l)):=by
  refine Zrm ?_;simp only[Ur,within_iff,Zl4,YL,ZgW];grind
 grind
theorem Zkv (q:Len l):ZgE l=some (tr (ZgW l)):=by
 unfold ZgE;have e:l.length<=4611686018427387904:=q;rw[V3 q (λk x=>(0<=x/\x<=100000)/\(0<k->∀ y,l[k-1]?=some y->y<x)) (bad:=false) (good:=decide (1<=l.length/\l.length<=4))
  (λk x H b _=>by
   simp only[ZfC,show(k:Int)<(l.length:Int)from by omega,Ui,Zo,H,Bq,ZfB];by_cases c:within x 0 100000=true
   ·rw[Uc c]
    by_cases m:0<k
    ·obtain⟨y,i⟩:∃y,l[k-1]?=some y:=⟨_,Ua (by omega)⟩
     have E:Wq ((k:Int)-1)=((k-1:Nat):Int):=by rw[QR];omega
     rw[QP,E,Zo,i,Bq];refine⟨λh=>?_,λh=>?_⟩
     ·grind
     ·rw[Uc]
      rcases Int.lt_or_le y x with a|a
      ·exact absurd ⟨(within_iff _ _ _).1 c,λ_ z T=>by grind⟩ h
      ·exact a
    ·rw[QQ]
     exact⟨λ_=>rfl,λh=>absurd ⟨(within_iff _ _ _).1 c,λa=>absurd a m⟩ h⟩
   ·rw[Ue c]
    exact ⟨λh=>absurd ((within_iff _ _ _).2 h.1) c,λ_=>rfl⟩)
  (λ_=>by
   simp only[ZfC,Uf,Uh];by_cases d:1<=l.length
   ·rw[QP]
    congr 2;grind
   grind)]
 congr 1;refine ZfU ?_;rw[YL];by_cases h:Zee l (λk x=>(0<=x/\x<=100000)/\(0<k->∀y,l[k-1]?=some y->y<x))
 ·rw[QY h,Ul]
  constructor
  ·rintro⟨d,f⟩
   refine⟨d,f,λx H=>?_,λk x y H i=>?_⟩
   ·obtain⟨k,b⟩:=UA.1 H
    exact(h k x b).1
   ·exact(h (k+1) y i).2 (by omega) x (by simpa using H)
  ·intro r
   exact⟨r.1,r.2.1⟩
 ·rw[Qs h]
  constructor
  ·intro r;cases r
  ·intro r
   refine absurd ?_ h;intro k x b;refine⟨r.2.2.1 x (Ud b),λm y i=>?_⟩;exact r.2.2.2 (k-1) y x i (by grind)
def JW (t:ZB):Prop:=ZgW (GO t)/\ZgW (Gt t)/\(Gr t).length=(GO t).length*(Gt t).length/\ZiI (Gr t) (-1000000) 1000000
def ZFd (t:ZB):Prop:=Len (GO t)/\Len (Gt t)/\Len (Gr t)
theorem ZgW.mul {a b:List Int} (n:ZgW a) (h:ZgW b):a.length*b.length<=16:=by
 have d:=n.2.1;have f:=h.2.1
 calc a.length*b.length<=4*4:=Km d f
  _=16:=rfl
theorem ZwJ {a b:List Int} (n:ZgW a) (h:ZgW b):Wq ((a.length:Int)*(b.length:Int))=((a.length*b.length:Nat):Int):=by
 have:=n.mul h;have e:(a.length:Int)*(b.length:Int)=((a.length*b.length:Nat):Int):=by simp
 rw[e,QR]
variable (t:ZB)
theorem ZpU (h:ZFd t):Zh9 t=some (tr (JW t)):=by
 unfold Zh9;rw[Zlk _ h.1,Bq];by_cases d:ZgW (GO t)
 ·rw[Uc (ZX d),Zlk _ h.2.1,Bq]
  by_cases f:ZgW (Gt t)
  ·rw[Uc (ZX f),ZwJ d f]
   by_cases g:(Gr t).length=(GO t).length*(Gt t).length
   ·rw[Uc (by rw[g]),ZdB _ _ _ h.2.2,Bq]
    congr 1;refine ZfU ?_;rw[Zl4,YL];exact⟨λi=>⟨d,f,g,i⟩,λi=>i.2.2.2⟩
   ·rw[QQ,Ym (λr=>g r.2.2.1)]
  ·rw[Ue (by rw[Ym f];simp),Ym (λr=>f r.2.1)]
 ·rw[Ue (by rw[Ym d];simp),Ym (λr=>d r.1)]
theorem ZqD (h:ZFd t):Zij t=some (tr (JW t)):=by
 unfold Zij;rw[Zkv _ h.1,Bq];by_cases d:ZgW (GO t)
 ·rw[Uc (ZX d),Zkv _ h.2.1,Bq]
  by_cases f:ZgW (Gt t)
  ·rw[Uc (ZX f),ZwJ d f]
   by_cases g:(Gr t).length=(GO t).length*(Gt t).length
   ·rw[Uc (by rw[g]),V3 h.2.2 (λk x=>-1000000<=x/\x<=1000000) (bad:=false) (good:=true)
     (λk x l H _=>by
      simp only[Zfz,show (k:Int)<((Gr t).length:Int) from by omega,Ui,Zo,l,Bq,ZfB,within_iff];grind)
     (λ_=>by simp only[Zfz,Uf,Uh]),ZiV]
    congr 1;refine J6 ⟨λi=>⟨d,f,g,λx l=>?_⟩,λi k x l=>i.2.2.2 x (Ud l)⟩;obtain⟨k,H⟩:=UA.1 l;exact i k x H
   ·rw[QQ,Ym (λr=>g r.2.2.1)]
  ·rw[Ue (by rw[Ym f];simp),Ym (λr=>f r.2.1)]
 ·rw[Ue (by rw[Ym d];simp),Ym (λr=>d r.1)]
variable (x:Int)
theorem Zs6 (l:List Int) (q:Len (x::l)):J3 (x::l)=some (l.foldl min x):=by
 unfold J3;have a:(x::l).length<=4611686018427387904:=q;have E:¬(((x::l).length:Int)<1):=by grind
 have e:atI (x::l) (0:Int)=some x:=rfl;rw[Ue E,e,Bq];refine XC l.length (λk v=>v.1=(l.take k).foldl min x/\v.2.1=(((k+1:Nat)):Int)) _ ⟨by simp,rfl⟩ ?_ ?_
 ·rintro k ⟨m,i,⟨⟩⟩ b ⟨R,h⟩
  simp only at R h;subst R;subst h;have c:l[k]?=some l[k]:=Ua b;have H:(x::l)[k+1]?=some l[k]:=by simp
  simp only[JL,Zo,H,Bq,show((k+1:Nat):Int)<((x::l).length:Int)from by simp;omega,Ui];refine .inl ⟨_,rfl,?_,?_⟩
  ·rw[Xa c,List.foldl_append];rfl
  ·simp only[Um]at a
   show Wq (((k+1:Nat):Int)+1)=((k+1+1:Nat):Int);rw[QR];omega
 ·rintro⟨m,i,⟨⟩⟩ ⟨R,h⟩
  simp only at R h;subst R;subst h;rw[Uo];simp only[JL,show ¬(((l.length+1:Nat):Int)<((x::l).length:Int))from by simp,Uh]
theorem Zml (l:List Int):l.foldl min x<0<->x<0\/∃y∈l,y<0:=by
 induction l generalizing x with
 |nil=>simp
 |cons y r i =>
  simp only[List.foldl_cons,i,UB,exists_eq_or_imp];grind
def ZdP (l:List ZB) (pos:Bool):Prop:=l.length=2/\∀t∈l,JW t/\(pos=true->∀v∈Gr t,0<=v)
theorem JW.some {t:ZB} (h:JW t):∃x l,Gr t=x::l:=by
 have d:=h.1.1;have f:=h.2.1.1;have g:=h.2.2.1;have:1*1<=(GO t).length*(Gt t).length:=Km d f;cases a:Gr t with
 |nil=>grind
 |cons x l=>exact⟨x,l,rfl⟩
variable (pos:Bool)
theorem ZkZ (h:ZFd t):Zai t pos=some (! tr (JW t/\(pos=true->∀v∈Gr t,0<=v))):=by
 unfold Zai;rw[ZpU _ h,Bq];by_cases d:JW t
 ·rw[Uc (ZX d)]
  cases pos
  ·rw[Ue (by simp),ZX ⟨d,λe=>by cases e⟩];rfl
  ·obtain⟨x,l,a⟩:=d.some
   have n:=h.2.2;rw[Uc rfl,a];rw[a]at n;rw[Zs6 x l n,Bq];congr 1;refine ZfU ?_;rw[Ul,Zml,UU,<-Bool.not_eq_true,YL];constructor
   ·rintro(r|⟨y,i,r⟩) ⟨_,H⟩
    ·have:=H rfl x (by simp);omega
    grind
   grind
 ·rw[Ue (by rw[Ym d];simp),Ym (λr=>d r.1)];rfl
def ZDL (l:List ZB):Prop:=Len l/\∀t∈l,ZFd t
theorem ZfZ (l:List ZB) (pos:Bool) (h:ZDL l):ZcF l pos=some (tr (ZdP l pos)):=by
 unfold ZcF;by_cases f:l.length=2
 ·rw[QP,Q8 h.1 (λt=>! tr (JW t/\(pos=true->∀v∈Gr t,0<=v))) (λt H=>ZkZ t pos (h.2 t H)),Bq]
  congr 1;refine ZfU ?_;rw[UU,List.any_eq_false,YL];simp only[UU,Bool.not_eq_false,YL,Bool.not_eq_true];exact⟨λr=>⟨f,r⟩,λr=>r.2⟩
 ·rw[QQ,Ym (λr=>f r.1)]
variable {l:List α}
theorem Zid (p:Nat->τ) (P:Nat->α->Prop) {step:τ->Option (τ⊕ρ)}
  (q:∀(k:Nat) (x:α),l[k]?=some x->k<l.length->(∀(j:Nat) (y:α),j<k->l[j]?=some y->P j y)->(P k x->step (p k)=some (.inl (p (k+1))))/\(¬P k x->step (p k)=some (.inr bad)))
  (a:Zee l P->step (p l.length)=some (.inr good)):Zx step (p 0)=some (sel (Zee l P) good bad):=by
 refine XC l.length (λk v=>v=p k/\∀(j:Nat) (y:α),j<k->l[j]?=some y->P j y) _ ⟨rfl,λj y g=>by omega⟩ ?_ ?_
 ·rintro k v H ⟨rfl,s⟩
  have a:l[k]?=some l[k]:=Ua H;obtain⟨e,f⟩:=q k _ a H s;by_cases b:P k l[k]
  ·refine .inl ⟨_,e b,rfl,λj y g i=>?_⟩
   by_cases c:j<k
   ·exact s j y c i
   ·have:j=k:=by omega
    subst this;rw[a]at i;injection i with i;subst i
    exact b
  ·right
   rw[f b,Qs (λh=>b (h k _ a))]
 ·rintro v ⟨rfl,s⟩
  have d:Zee l P:=λk x H=>s k x (Ub.1 H).1 H;rw[a d,QY d]
theorem YP (p:Nat->τ) {step:τ->Option (τ⊕ρ)}
  (q:∀(k:Nat) (x:α),l[k]?=some x->k<l.length->step (p k)=some (.inl (p (k+1)))) (H:step (p l.length)=some (.inr good)):Zx step (p 0)=some good:=by
 have:=Zid (l:=l) p (λ_ _=>True) (step:=step) (bad:=good) (good:=good) (λk x d f _=>⟨λ_=>q k x d f,λh=>absurd trivial h⟩) (λ_=>H);rw[this,QY (show Zee l (λ_ _=>True)from λ_ _ _=>trivial)]
theorem Zqb (f:n<=4611686018427387904) (P:Nat->Prop) {step:Int×Unit->Option ((Int×Unit)⊕ρ)}
  (q:∀k:Nat,k<n->(P k->step ((k:Int),())=some (.inl (Wq ((k:Int)+1),())))/\(¬P k->step ((k:Int),())=some (.inr bad)))
  (l:(∀j,j<n->P j)->step ((n:Int),())=some (.inr good)):Zx step ((0:Int),())=some (sel (∀j,j<n->P j) good bad):=by
 have:=ZwE (ρ:=ρ) 0 n (by omega) f P (step:=step) (bad:=bad) (good:=good) (λk _ h _=>q k h) (λh=>l (λj b=>h j (by omega) b));refine(show Zx step ((0:Int),())=_ from this).trans ?_;congr 1;have e:(∀j,0<=j->j<n->P j)<->(∀j,j<n->P j):=⟨λh j b=>h j (by omega) b,λh j _ b=>h j b⟩;rw[propext e]
variable {t:Ty} {l:List t.den}
theorem Qy (h:sm (.sl t) l):Len l:=by
 have d:(l.length:Int)<=1048576:=h.1;show l.length<=4611686018427387904;omega
variable {s:List UInt8}
theorem Zi3 (h:sm .str s):s.length<=4611686018427387904:=by
 have d:(s.length:Int)<=1048576:=h;omega
variable {x:t.den}
theorem Zuo (h:sm (.sl t) l) (H:x∈l):sm t x:=h.2 x H
theorem Zba (h:sm (.sl t) l) (H:l[k]?=some x):sm t x:=h.2 x (Ud H)
theorem Zw (h:sm (.sl t) l):l.length<=1048576:=by
 have d:(l.length:Int)<=1048576:=h.1;omega
variable {t:ZB}
theorem Zx2 (h:sm Zac t):ZFd t:=⟨Qy (t:=.int .i64) h.1,Qy (t:=.int .i64) h.2.1,Qy (t:=.int .i64) h.2.2.1⟩
theorem ZjF {l:List ZB} (h:sm (.sl Zac) l):ZDL l:=⟨Qy h,λt r=>Zx2 (Zuo h r)⟩
theorem ZlU (t:ZB) (h:ZFd t):∃r,Zen t=some r/\(JW t->r.2=0/\(r.1.1<0<->∃v∈Gr t,v<0))/\(¬JW t->r.2=1):=by
 unfold Zen;rw[ZqD _ h,Bq];by_cases d:JW t
 ·rw[Uc (ZX d)]
  obtain⟨x,l,a⟩:=d.some;have b:(x::l).length<=4611686018427387904:=by rw[<-a];exact h.2.2
  have e:atI (Gr t) (0:Int)=some x:=by rw[a];rfl
  rw[e,Bq];have:=YP (l:=l) (ρ:=ZA×Int) (λk=>((((k+1:Nat)):Int),(l.take k).foldl min x,(l.take k).foldl max x,())) (step:=λv=>ZaG t v.1 v.2.1 v.2.2.1) (good:=((l.foldl min x,l.foldl max x,()),0))
   (λk y i c=>by
    have H:(x::l)[k+1]?=some y:=by simpa using i
    simp only[Um] at b;simp only[ZaG,a,Zo,H,Bq,show ((k+1:Nat):Int)<((x::l).length:Int) from by simp;omega,Ui];rw[Xa i,List.foldl_append,List.foldl_append,QR];rfl)
   (by
    simp only[ZaG,a,Uo,show ¬(((l.length+1:Nat):Int)<((x::l).length:Int)) from by simp,Uh])
  refine⟨_,this,λ_=>⟨rfl,?_⟩,λf=>absurd d f⟩;rw[a];refine(Zml x l).trans ?_;simp
 ·rw[Ue (by rw[Ym d];simp)]
  exact⟨_,rfl,λf=>absurd f d,λ_=>rfl⟩
theorem Zgf (l:List ZB) (pos:Bool) (h:ZDL l):Y9 l pos=some (tr (ZdP l pos)):=by
 unfold Y9;by_cases f:l.length=2
 ·rw[QP,V3 h.1 (λk t=>JW t/\(pos=true->∀ v∈Gr t,0<=v)) (bad:=false) (good:=true)
   (λk t x c _=>by
    obtain⟨r,F,d,g⟩:=ZlU t (h.2 t (Ud x));simp only[ZdX,show(k:Int)<2 from by omega,Ui,Zo,x,Bq,F];by_cases b:JW t
    ·obtain⟨E,j⟩:=d b
     rw[Uc E];cases pos
     ·simp only[Ka,Uh]
      exact⟨λ_=>trivial,λn=>absurd ⟨b,λe=>by cases e⟩ n⟩
     ·simp only[Ui]
      refine⟨λH=>?_,λn=>?_⟩
      ·rw[Ue]
       intro a;obtain⟨v,i,D⟩:=j.1 a;have:=H.2 trivial v i;omega
      ·rw[Uc]
       apply UT;intro a;refine n ⟨b,λ_ v i=>?_⟩;exact Int.not_lt.1 λD=>a (j.2 ⟨v,i,D⟩)
    ·have E:=g b
     rw[Ue (by rw[E];decide)];exact ⟨λH=>absurd H.1 b,λ_=>rfl⟩)
   (λ_=>by simp only[ZdX,f];rfl),ZiV]
  congr 1;refine J6 ⟨λH=>⟨f,λt b=>?_⟩,λH k t c=>H.2 t (Ud c)⟩;obtain⟨k,c⟩:=UA.1 b;exact H k t c
 ·rw[QQ,Ym (λH=>f H.1)]
def ZgC (l:List XF):List (List UInt8):=l.map GK
def ZoU (l:List XF):Nat:=l.countP (λp=>Gj p)
def Ztt (n k:Nat) (p:XF):Prop:=(0<=GX p/\GX p<=500)/\(k+1=n->G5 p=2/\GX p=0/\Gj p=false)/\(k+1<n->G5 p=1)
def Zk6 (l:List XF):Prop:=2<=l.length/\l.length<=5/\JI (ZgC l) l.length/\Zee l (Ztt l.length)
theorem ZpW (l:List XF) (h:sm (.sl ZmU) l):Zia l=some (tr (Zk6 l)):=by
 unfold Zia;have q:=Zw h;have:=Zid (l:=l) (ρ:=Bool) (λk=>((ZgC l).take k,(k:Int),())) (Ztt l.length) (step:=λv=>Za0 l v.1 v.2.1) (bad:=false) (good:=tr (2<=l.length/\l.length<=5/\JI (ZgC l) l.length))
  (λk p x o _=>by
   have m:(ZgC l)[k]?=some (GK p):=by simp[ZgC,x]
   have d:Wq ((l.length:Int)-1)=((l.length-1:Nat):Int):=by rw[QR];omega
   simp only[Za0,show(k:Int)<(l.length:Int)from by omega,Ui,Zo,x,Bq,d];rw[Zi (by simp only[Uj,Uz,ZgC,U1];omega),Xa m,QR];unfold Ztt;by_cases t:(k:Int)=((l.length-1:Nat):Int)
   ·rw[Uc t]
    have e:k+1=l.length:=by omega
    constructor
    ·rintro⟨_,i,_⟩
     obtain⟨a,b,c⟩:=i e;rw[Uc a,Uc b,Ue (by rw[c];simp)];rfl
    ·intro r
     split
     ·split
      ·split
       ·rfl
       ·rename_i a b c
        exact absurd ⟨by omega,λ_=>⟨a,b,by simpa using c⟩,λf=>by omega⟩ r
      ·rfl
     ·rfl
   ·rw[Ue t,ZcG]
    have e:k+1<l.length:=by omega
    simp only[Bq,within_iff];constructor
    ·rintro⟨g,_,j⟩
     rw[Uc (j e),Uc g];rfl
    ·intro r
     split
     ·split
      ·rename_i a b
       exact absurd ⟨b,λf=>by omega,λ_=>a⟩ r
      ·rfl
     ·rfl)
  (λH=>by
   have E:(ZgC l).take l.length=ZgC l:=by rw[show l.length=(ZgC l).length by simp[ZgC],Uo]
   simp only[Za0,Uf,Uh,E,ZcG,Bq,show Zbz l=some (l.length:Int)from rfl];have n:(ZgC l).length=l.length:=by simp[ZgC]
   by_cases w:within (l.length:Int) 2 5=true
   ·rw[Uc w,Zct _ (by rw[n];omega),Bq,n]
    rw[within_iff]at w;congr 2;exact J6 ⟨λr=>⟨by omega,by omega,r⟩,λr=>r.2.2⟩
   ·rw[Ue w,Ym]
    intro r;exact w ((within_iff _ _ _).2 (by omega)))
 refine(show Zx (λv=>Za0 l v.1 v.2.1) (([]:List (List UInt8)),(0:Int),())=_ from this).trans ?_;congr 1;refine ZfU ?_;rw[YL];by_cases H:Zee l (Ztt l.length)
 ·rw[QY H,YL]
  exact⟨λr=>⟨r.1,r.2.1,r.2.2,H⟩,λr=>⟨r.1,r.2.1,r.2.2.1⟩⟩
 ·rw[Qs H]
  exact⟨λr=>(by cases r),λr=>absurd r.2.2.2 H⟩
variable {n:Nat}
theorem Zk9 (h:n<=1048576:=by omega) (d:1<=n:=by omega):Wq ((n:Int)-1)=((n-1:Nat):Int):=by rw[QR];omega
theorem YW (h:n<=1048576:=by omega):Wq ((n:Int)+1)=((n+1:Nat):Int):=by rw[QR];omega
variable {l:List XF}
theorem Zln:s ∉ (ZgC l).take k<->∀(j:Nat) (q:XF),j<k->l[j]?=some q->GK q≠s:=by
 constructor
 ·intro h j q b H e
  refine h (UA.2 ⟨j,?_⟩);rw[UC,Uc b];simp[ZgC,H,e]
 ·intro h R
  obtain⟨j,b⟩:=UA.1 R;rw[UC]at b;split at b
  ·rename_i c
   simp only[ZgC,UK,Kk]at b;obtain⟨q,H,e⟩:=b;exact h j q c H e
  ·cases b
variable (c:Zn)
theorem ZqF (h:sm (.sl ZmU) (K5 c)):Zim c=some (sel (Zk6 (K5 c)) ((ZoU (K5 c):Int),true) ((0:Int),false)):=by
 unfold Zim;have P:=Zw h;by_cases A:((K5 c).length:Int)<2
 ·rw[Uc A,Qs (λr=>by have:=r.1;omega)]
 by_cases F:(5:Int)<((K5 c).length:Int)
 ·rw[Ue A,Uc F,Qs (λr=>by have:=r.2.1;omega)]
 rw[Ue A,Ue F];have M:Wq (((K5 c).length:Int)-1)=(((K5 c).length-1:Nat):Int):=Zk9 P;have:=Zid (l:=K5 c) (ρ:=Int×Bool) (λk=>((((K5 c).take k).countP (λp=>Gj p):Int),(k:Int),()))
  (λk p=>(Za6 (GK p)=true/\∀(j:Nat) (q:XF),j<k->(K5 c)[j]?=some q->GK q≠GK p)/\Ztt (K5 c).length k p) (step:=λv=>Zbd c v.1 v.2.1) (bad:=((0:Int),false)) (good:=((ZoU (K5 c):Int),true))
  (λk p D L _=>by
   have K:((K5 c).take k).countP (λp=>Gj p)<=5:=by
    have N:=List.countP_le_length (p:=λp=>Gj p) (l:=(K5 c).take k);rw[Uj]at N;omega
   have m:((K5 c).take (k+1)).countP (λp=>Gj p)=((K5 c).take k).countP (λp=>Gj p)+if Gj p=true then 1 else 0:=by
    rw[Xa D,Kp];simp[List.countP_cons]
   have z:(GK p).length<=4611686018427387904:=Zi3 (Zba h D).1;have rest:∀(v:Int),JF c v (k:Int) p (k:Int)=sel (Za6 (GK p)=true/\Ztt (K5 c).length k p) (some (Sum.inr (Sum.inl (if Gj p=true then Wq (v+1)else v,((k+1:Nat):Int),())))) (some (Sum.inr (Sum.inr (0,false)))):=by
    intro v;simp only[JF,Uf,Uh,ZbS _ z,ZfB,Bq,M,YW (show k<=1048576 by omega),within_iff];unfold Ztt;by_cases f:Za6 (GK p)=true
    ·by_cases G:0<=GX p/\GX p<=500
     ·by_cases t:k+1=(K5 c).length
      ·have E:(k:Int)=(((K5 c).length-1:Nat):Int):=by omega
       have x:¬((k:Int)<(((K5 c).length-1:Nat):Int)):=by omega
       have y:¬(k+1<(K5 c).length):=by omega
       rw[Uc f,Uc G,Uc E];by_cases a:G5 p=2
       ·by_cases b:GX p=0
        ·by_cases d:Gj p=true
         ·rw[Uc a,Uc b,Uc d,Qs]
          rintro⟨_,_,H,_⟩;have:=(H t).2.2;rw[d]at this;cases this
         ·rw[Uc a,Uc b,Ue d,Ue x,Ue d,QY ⟨f,G,λ_=>⟨a,b,by simpa using d⟩,λH=>absurd H y⟩]
          simp[d]
        ·rw[Uc a,Ue b,Qs]
         rintro⟨_,_,H,_⟩;exact b (H t).2.1
       ·rw[Ue a,Qs]
        rintro⟨_,_,H,_⟩;exact a (H t).1
      ·have E:¬(k:Int)=(((K5 c).length-1:Nat):Int):=by omega
       have x:(k:Int)<(((K5 c).length-1:Nat):Int):=by omega
       have y:k+1<(K5 c).length:=by omega
       rw[Uc f,Uc G,Ue E,Uc x];by_cases a:G5 p=1
       ·rw[Uc a,QY ⟨f,G,λH=>absurd H t,λ_=>a⟩]
        by_cases d:Gj p=true
        ·rw[Uc d,Uc d]
        ·rw[Ue d,Ue d]
       ·rw[Ue a,Qs]
        rintro⟨_,_,_,H⟩;exact a (H y)
     ·rw[Uc f,Ue G,Qs (λr=>G r.2.1)]
    ·rw[Ue f,Qs (λr=>f r.1)]
   have i:∀(v:Int) (good:(Int×Int×Unit)⊕(Int×Bool)),((∀(j:Nat) (q:XF),j<k->(K5 c)[j]?=some q->GK q≠GK p)->JF c v (k:Int) p (k:Int)=some (.inr good))->
     Zx (λv'=>JF c v (k:Int) p v'.1) ((0:Int),())=some (sel (∀j,j<k->∀q,(K5 c)[j]?=some q->GK q≠GK p) good (.inr (0,false))):=by
    intro v good O;refine Zqb k (by omega) (λj=>∀q,(K5 c)[j]?=some q->GK q≠GK p) (λj o=>?_) (λr=>O (λj q o g=>r j o q g));obtain⟨q,g⟩:∃q,(K5 c)[j]?=some q:=⟨_,Ua (by omega)⟩;simp only[JF,show(j:Int)<(k:Int)from by omega,Ui,Zo,g,Bq];refine⟨λr=>by rw[Ue (r q rfl)],λr=>?_⟩;rw[Uc];apply UT;intro C;exact r (λQ n=>by injection n with n;subst n;exact C)
   simp only[Zbd,show(k:Int)<((K5 c).length:Int)from by omega,Ui,Zo,D,Bq];constructor
   ·rintro⟨⟨a,b⟩,d⟩
    rw[i _ (.inl (((((K5 c).take (k+1)).countP (λp=>Gj p):Nat):Int),((k+1:Nat):Int),())) (λ_=>by
     rw[rest,QY ⟨a,d⟩,m];by_cases w:Gj p=true
     ·rw[Uc w,Uc w,YW]
     ·rw[Ue w,Ue w];rfl),QY (λj o q g=>b j q o g)]
   ·intro r
    rw[i _ (.inr (0,false)) (λf=>by
     rw[rest,Qs (λH=>r ⟨⟨H.1,f⟩,H.2⟩)])]
    by_cases I:∀j,j<k->∀q,(K5 c)[j]?=some q->GK q≠GK p
    ·rw[QY I]
    ·rw[Qs I])
  (λ_=>by simp only[Zbd,Uf,Uh,Uo];rfl)
 refine(show Zx (λv=>Zbd c v.1 v.2.1) ((0:Int),(0:Int),())=_ from this).trans ?_;congr 1;have e:Zee (K5 c) (λk p=>(Za6 (GK p)=true/\∀(j:Nat) (q:XF),j<k->(K5 c)[j]?=some q->GK q≠GK p)/\Ztt (K5 c).length k p)<->Zk6 (K5 c):=by
  constructor
  ·intro B
   refine⟨by omega,by omega,λj s o J=>?_,λk p u=>(B k p u).2⟩;simp only[ZgC,UK,Kk]at J;obtain⟨q,g,rfl⟩:=J;exact⟨(B j q g).1.1,Zln.2 (B j q g).1.2⟩
  ·intro r k p u
   have L:=(Ub.1 u).1;have f:=r.2.2.1 k (GK p) L (by simp[ZgC,u]);exact⟨⟨f.1,Zln.1 f.2⟩,r.2.2.2 k p u⟩
 rw[propext e]
def Zsc (l:List XF) (i:Int):Bool:=match l[i.toNat]? with
 |some p=>Gj p
 |none=>false
def ZmV (c:Zn) (a:ZH):Prop :=
  (0<=Gk a/\Gk a<=((K5 c).length:Int)-2)/\(0<=Gp a/\Gp a<=((K5 c).length:Int)-1)/\
  ((Gb a=1/\Zsc (K5 c) (Gk a)=false/\Gp a=((K5 c).length:Int)-1/\(1<=GE a/\GE a<=3)/\ZdP (GF a) true/\ZdP (GM a) true)\/
   ((Gb a=2\/Gb a=3)/\Zsc (K5 c) (Gk a)=true/\Gp a=((K5 c).length:Int)-1/\GE a=0/\ZdP (GF a) true/\ZdP (GM a) true)\/
   ((Gb a=4\/Gb a=5)/\Zsc (K5 c) (Gk a)=true/\Gp a<((K5 c).length:Int)-1/\Zsc (K5 c) (Gp a)=false/\GE a=0/\ZdP (GF a) false/\(GM a).length=0))
theorem ZmV.kind {c:Zn} {a:ZH} (h:ZmV c a):1<=Gb a/\Gb a<=5:=by
 rcases h.2.2 with h|h|h
 ·have:=h.1;omega
 ·have:=h.1;omega
 ·have:=h.1;omega
variable {m:Option Bool}
theorem ZFz (R:m=some (tr Q)):(if tr P=true then m else some false)=some (tr (P/\Q)):=by
 by_cases h:P
 ·rw[Uc (ZX h),R];congr 1;exact J6 ⟨λq=>⟨h,q⟩,λq=>q.2⟩
 ·rw[Ue (by rw[Ym h];simp),Ym (λq=>h q.1)]
theorem YG {_:Decidable P} (R:P->m=some (tr Q)):(if P then m else some false)=some (tr (P/\Q)):=by
 by_cases h:P
 ·rw[Uc h,R h];congr 1;exact J6 ⟨λq=>⟨h,q⟩,λq=>q.2⟩
 ·rw[Ue h,Ym (λq=>h q.1)]
theorem Zi8 {_:Decidable P} (R:¬P->m=some (tr Q)):(if P then some false else m)=some (tr (¬P/\Q)):=by
 by_cases h:P
 ·rw[Uc h,Ym (λq=>q.1 h)]
 ·rw[Ue h,R h];congr 1;exact J6 ⟨λq=>⟨h,q⟩,λq=>q.2⟩
theorem ZcT (h:b=true<->P):some b=some (tr P):=by rw[Zrm h]
theorem Zan (h:m=some (tr P)) (q:P<->Q):m=some (tr Q):=by rw[h,propext q]
theorem Zn0 (h:¬Q):(some false:Option Bool)=some (tr Q):=by rw[Ym h]
theorem ZaM (h:m=some (tr P)):(m.bind λb=>some b)=some (tr P):=by rw[h];rfl
theorem Xm {M:Option Bool} (h:m=some (tr P)) (f:P->M=some (tr Q)):(m.bind λb=>if b=true then M else some false)=some (tr (P/\Q)):=by
 rw[h,Bq];by_cases g:P
 ·rw[Uc (ZX g),f g];congr 1;exact J6 ⟨λq=>⟨g,q⟩,λq=>q.2⟩
 ·rw[Ue (by rw[Ym g];simp),Ym (λq=>g q.1)]
theorem JB (n a b:Int):ZY n a b=some (tr (a<=n/\n<=b)):=by rw[ZfB];exact ZcT (within_iff _ _ _)
theorem Jt (n a b:Int):Yy n a b=some (tr (a<=n/\n<=b)):=by rw[ZcG];exact ZcT (within_iff _ _ _)
theorem ZzS (m:0<=i) (d:i<l.length:=by omega):∃p,atI l i=some p/\Zsc l i=Gj p:=by
 obtain⟨p,f,g⟩:=Zrt m d;exact⟨p,f,by simp[Zsc,g]⟩
variable (a:ZH)
theorem Zrg (u:sm (.sl ZmU) (K5 c)) (N:sm (.sl Zac) (GF a)) (w:sm (.sl Zac) (GM a)) (v:2<=(K5 c).length):Zjy c a=some (tr (ZmV c a)):=by
 unfold Zjy;have A:=Zw u;have E:Wq (((K5 c).length:Int)-1)=((K5 c).length:Int)-1:=QR;have o:Wq (((K5 c).length:Int)-1-1)=((K5 c).length:Int)-2:=by rw[QR];omega
 rw[E,o];refine Zan (Xm (JB _ _ _) (λs=>Xm (JB _ _ _) (λz=>?_))) (Q:=ZmV c a) (P:=(0<=Gk a/\Gk a<=((K5 c).length:Int)-2)/\(0<=Gp a/\Gp a<=((K5 c).length:Int)-1)/\ZmV c a) ⟨λr=>r.2.2,λr=>⟨r.1,r.2.1,r⟩⟩;obtain⟨p,e,H⟩:=ZzS (l:=K5 c) s.1;rw[e,Bq];have F:=ZjF N;have g:=ZjF w;have t:∀b,(Y9 (GF a) b).bind (λx=>if x=true then(Y9 (GM a) b).bind (λy=>some y)else some false)=some (tr (ZdP (GF a) b/\ZdP (GM a) b)):=λb=>Xm (Zgf _ _ F) (λ_=>ZaM (Zgf _ _ g));have T:(Y9 (GF a) false).bind (λx=>if x=true then some (Decidable.decide (((GM a).length:Int)=(0:Int)))else some false)=some (tr (ZdP (GF a) false/\(GM a).length=0)):=Xm (Zgf _ _ F) (λ_=>ZcT (by rw[Ul];omega));unfold ZmV;rw[H];by_cases K:Gb a=1
 ·simp only[K,Ui]
  refine Zan (Zi8 (λi=>YG (λh=>Xm (JB _ _ _) (λ_=>t true)))) ?_;grind
 by_cases j:Gb a=2
 ·simp only[j,Ui,Int.reduceEq,Uh]
  refine Zan (YG (λi=>YG (λh=>YG (λ_=>t true)))) ?_;grind
 by_cases R:Gb a=3
 ·simp only[R,Ui,Int.reduceEq,Uh]
  refine Zan (YG (λi=>YG (λh=>YG (λ_=>t true)))) ?_;grind
 have k:(if Gj p=true then(if Gp a<((K5 c).length:Int)-1 then(atI (K5 c) (Gp a)).bind (λX=>if Gj X=true then some false else if GE a=0 then(Y9 (GF a) false).bind (λx=>if x=true then some (Decidable.decide (((GM a).length:Int)=(0:Int)))else some false)else some false)else some false)else some false) =
   some (tr (Gj p=true/\Gp a<((K5 c).length:Int)-1/\Zsc (K5 c) (Gp a)=false/\GE a=0/\ZdP (GF a) false/\(GM a).length=0)):=by
  refine YG (λ_=>YG (λh=>?_));obtain⟨q,d,f⟩:=ZzS (l:=K5 c) z.1;rw[d,Bq,f];refine Zan (Zi8 (λ_=>YG (λ_=>T))) ?_;simp only[Bool.not_eq_true]
 by_cases m:Gb a=4
 ·simp only[m,Ui,Int.reduceEq,Uh]
  refine Zan k ?_;grind
 by_cases n:Gb a=5
 ·simp only[n,Ui,Int.reduceEq,Uh]
  refine Zan k ?_;grind
 ·simp only[K,j,R,m,n,Uh]
  refine Zn0 ?_;grind
def ZlA (l:List XF):Int:=Zao (λp=>Gj p) l
theorem Zmo (h:sm (.sl ZmU) (K5 c)):Zfg c=some (ZlA (K5 c)):=by
 unfold Zfg;rw[VR (Qy h) (λp=>Gj p) (λp _=>rfl),Bq];rfl
theorem Zep (h:sm (.sl ZmU) (K5 c)):Zcs c=some (((K5 c).length:Int)-1):=by
 have q:=Zw h;show some (Wq (((K5 c).length:Int)-1))=_;rw[QR]
theorem ZgY (i:Int) (h:sm (.sl ZmU) (K5 c)):ZbI c i=some (tr (0<=i/\i<=((K5 c).length:Int)-2)):=by
 have q:=Zw h;unfold ZbI;rw[Zep c h,Bq,QR];refine Zan (ZaM (Jt _ _ _)) ?_;omega
def ZAR (c:Zn) (a:ZH):Prop :=
 ((Gb a=4\/Gb a=5)/\GE a=0/\(GM a).length=0/\ZdP (GF a) false/\Gk a=ZlA (K5 c)/\0<=Gk a/\(0<=Gp a/\Gp a<=((K5 c).length:Int)-2)/\Gp a≠Gk a)\/
 (¬(Gb a=4\/Gb a=5)/\ZdP (GF a) true/\ZdP (GM a) true/\Gp a=((K5 c).length:Int)-1/\(0<=Gk a/\Gk a<=((K5 c).length:Int)-2)/\
  ((Gb a=1/\Zsc (K5 c) (Gk a)=false/\(1<=GE a/\GE a<=3))\/((Gb a=2\/Gb a=3)/\Zsc (K5 c) (Gk a)=true/\GE a=0)))
theorem ZpX (k:Int):Zib k=some (tr (k=4\/k=5)):=by
 unfold Zib;split
 ·rename_i h;rw[ZX (.inl h)]
 ·rename_i h
  exact ZcT (by rw[Ul];omega)
theorem Zsq (g:sm (.sl ZmU) (K5 c)) (N:sm (.sl Zac) (GF a)) (w:sm (.sl Zac) (GM a)):Zfi c a=some (tr (ZAR c a)):=by
 unfold Zfi;have F:=ZjF N;have b:=ZjF w;rw[ZpX,Bq];by_cases H:Gb a=4\/Gb a=5
 ·rw[Uc (ZX H)]
  refine Zan (YG (λ_=>YG (λ_=>Xm (ZfZ _ _ F) (λ_=>?_)))) (P:=GE a=0/\((GM a).length:Int)=0/\ZdP (GF a) false/\(Gk a=ZlA (K5 c)/\0<=Gk a/\(0<=Gp a/\Gp a<=((K5 c).length:Int)-2)/\Gp a≠Gk a)) ?_
  ·rw[Zmo c g,Bq]
   refine YG (λ_=>YG (λ_=>Xm (ZgY c _ g) (λ_=>ZcT ?_)));rw[UU,Kr]
  ·unfold ZAR
   constructor
   ·rintro⟨X,i,A,d⟩
    exact .inl ⟨H,X,by omega,A,d⟩
   ·rintro(⟨_,X,i,A,d⟩|⟨x,_⟩)
    ·exact⟨X,by omega,A,d⟩
    ·exact absurd H x
 ·rw[Ue (by rw[Ym H];simp)]
  refine Zan (Xm (ZfZ _ _ F) (λ_=>Xm (ZfZ _ _ b) (λ_=>?_))) (P:=ZdP (GF a) true/\ZdP (GM a) true/\(Gp a=((K5 c).length:Int)-1/\(0<=Gk a/\Gk a<=((K5 c).length:Int)-2)/\
   ((Gb a=1/\Zsc (K5 c) (Gk a)=false/\(1<=GE a/\GE a<=3))\/((Gb a=2\/Gb a=3)/\Zsc (K5 c) (Gk a)=true/\GE a=0)))) ?_
  ·rw[Zep c g,Bq]
   refine YG (λ_=>Xm (ZgY c _ g) (λs=>?_));obtain⟨p,e,h⟩:=ZzS (l:=K5 c) s.1;rw[e,h];simp only[Bq];by_cases k:Gb a=1
   ·simp only[k,Ui]
    refine Zan (Zi8 (λ_=>ZaM (Jt _ _ _))) ?_;grind
   by_cases f:Gb a=2
   ·simp only[f,Ui,Int.reduceEq,Uh]
    refine Zan (YG (λ_=>ZcT (Ke))) ?_;grind
   by_cases R:Gb a=3
   ·simp only[R,Ui,Int.reduceEq,Uh]
    refine Zan (YG (λ_=>ZcT (Ke))) ?_;grind
   ·simp only[k,f,R,Uh]
    refine Zn0 ?_;grind
  ·unfold ZAR
   constructor
   ·intro x;exact .inr ⟨H,x⟩
   ·rintro(⟨x,_⟩|⟨_,x⟩)
    ·exact absurd x H
    ·exact x
def ZhL (o a:ZH):Prop:=Gb o=Gb a/\Gk o=Gk a/\Gp o=Gp a
def Apart (l:List ZH) (k:Nat) (a:ZH):Prop:=∀(j:Nat) (o:ZH),j<k->l[j]?=some o->¬ZhL o a
structure Zro (c:Zn):Prop where
 name:(GR c).length<=4611686018427387904
 pins:sm (.sl ZmU) (K5 c)
 arcs:sm (.sl Zn7) (Gh c)
 truth:sm (.sl (.int .i64)) (Gy c)
theorem ZAj {c:Zn} (h:sm ZcQ c):Zro c:=⟨Zi3 h.1,h.2.2.1,h.2.2.2.1,h.2.2.2.2.1⟩
theorem ZCm {a:ZH} (h:sm Zn7 a):sm (.sl Zac) (GF a)/\sm (.sl Zac) (GM a):=⟨h.2.2.2.2.1,h.2.2.2.2.2.1⟩
theorem Zmp (o a:ZH):VB o a=some (tr (ZhL o a)):=by
 unfold VB ZhL;exact YG (λ_=>YG (λ_=>ZcT Ke))
theorem ZpV (h:Zro c):Zdy c=some (tr ((Gh c).length<=8/\Zee (Gh c) (λk a=>ZAR c a/\Apart (Gh c) k a))):=by
 unfold Zdy;have q:=Zw h.arcs;rw[V3 (Qy h.arcs) (λk a=>ZAR c a/\Apart (Gh c) k a) (bad:=false) (good:=decide ((Gh c).length<=8))
  (λk a l i _=>by
   obtain⟨f,g⟩:=ZCm (Zba h.arcs l);simp only[Zca,show(k:Int)<((Gh c).length:Int)from by omega,Ui,Zo,l,Bq,Zsq c a h.pins f g];by_cases H:ZAR c a
   ·rw[Uc (ZX H),Ra,Ra]
    simp only[Up,Int.toNat_zero,KE,Nat.sub_zero];rw[Vb (by show((Gh c).take k).length<=4611686018427387904;grind) (λo=>tr (ZhL o a)) (λo _=>Zmp o a),Bq];have e:((Gh c).take k).any (λo=>tr (ZhL o a))=true<->¬Apart (Gh c) k a:=by
     rw[KN];constructor
     ·rintro⟨o,x,q⟩ G
      obtain⟨j,b⟩:=UA.1 x;rw[UC]at b;split at b
      ·rename_i d;exact G j o d b ((YL _).1 q)
      ·cases b
     ·intro n
      apply UT;intro m;refine n (λj o b x q=>m ⟨o,?_,ZX q⟩);exact UA.2 ⟨j,by grind⟩
    grind
   ·rw[Ue (by rw[Ym H];simp)]
    grind)
  (λ_=>by
   simp only[Zca,Uf,Uh];congr 2;grind)]
 congr 1;refine ZfU ?_;rw[YL];by_cases H:Zee (Gh c) (λk a=>ZAR c a/\Apart (Gh c) k a)
 ·rw[QY H,Ul];grind
 ·rw[Qs H];grind
def Ztq (c:Zn) (k:Int):Prop:=∃a∈Gh c,Gb a=k
theorem Zf2 (k:Int) (h:Zro c):JX c k=some (tr (Ztq c k)):=by
 unfold JX;rw[VK (Qy h.arcs) (λa=>decide (Gb a=k)) (λa _=>rfl),Bq];refine ZcT ?_;rw[KN];simp only[Ul,Ztq]
def ZhY (c:Zn):Prop :=
 (GG c=1/\ZoU (K5 c)=0/\(Gy c).length=2^((K5 c).length-1)/\ZiI (Gy c) 0 1)\/
 (GG c=2/\ZoU (K5 c)=1/\(Gy c).length=0/\¬Ztq c 1/\(Ztq c 2<->¬Ztq c 3))\/
 (GG c=3/\ZoU (K5 c)=1/\(Gy c).length=0/\Ztq c 1/\Ztq c 2/\¬Ztq c 3)
theorem ZzW (h:n<=4):(2:Nat)^n<=16:=by
 calc (2:Nat)^n<=2^4:=Nat.pow_le_pow_right (by omega) h
  _=16:=rfl
variable {m:Nat}
theorem ZFx (h:m<=4:=by omega):Wq ((1:Int)*(2:Int)^min m (IntKind.bits IntKind.i64))=((2^m:Nat):Int):=by
 have b:min m (IntKind.bits IntKind.i64)=m:=Nat.min_eq_left (by show m<=64;omega);have e:(1:Int)*(2:Int)^m=((2^m:Nat):Int):=by simp
 rw[b,e];have H:=ZzW h;clear b e;generalize 2^m=g at H ⊢;rw[QR]
theorem ZoR (h:Zro c) (g:Zk6 (K5 c)):ZcU c=some (tr (ZhY c)):=by
 unfold ZcU;have f:=g.1;have n:=g.2.1;refine (show Zx (λv=>Q6 c v.1 v.2.1) ((0:Int),(0:Int),())=_ from YP (l:=K5 c) (ρ:=Bool) (λk=>((((K5 c).take k).countP (λp=>Gj p):Int),(k:Int),())) (step:=λv=>Q6 c v.1 v.2.1)
  (λk p x o=>by
   have K:((K5 c).take k).countP (λp=>Gj p)<=5:=by
    have d:=List.countP_le_length (p:=λp=>Gj p) (l:=(K5 c).take k);grind
   have m:((K5 c).take (k+1)).countP (λp=>Gj p)=((K5 c).take k).countP (λp=>Gj p)+if Gj p=true then 1 else 0:=by
    rw[Xa x,Kp];grind
   simp only[Q6,show(k:Int)<((K5 c).length:Int)from by omega,Ui,Zo,x,Bq,m];by_cases q:Gj p=true
   ·rw[Uc q,Uc q,YW,YW]
   ·rw[Ue q,Ue q,YW];rfl)
  ?_)
 have t:=Zep c h.pins;simp only[Q6,Uf,Uh,Uo,t,Bq,show(((K5 c).length:Int)-1).toNat=(K5 c).length-1 from by omega,ZFx (show(K5 c).length-1<=4 by omega)];have E:((K5 c).countP (λp=>Gj p):Int)=0<->ZoU (K5 c)=0:=by unfold ZoU;omega
 have e:((K5 c).countP (λp=>Gj p):Int)=1<->ZoU (K5 c)=1:=by unfold ZoU;omega
 unfold ZhY;by_cases i:GG c=1
 ·simp only[i,Ui]
  by_cases q:ZoU (K5 c)=0
  ·rw[Uc (E.2 q),Ra]
   by_cases H:(Gy c).length=2^((K5 c).length-1)
   ·rw[Uc (by rw[H]),ZdB _ _ _ (Qy h.truth),Bq]
    congr 2;refine(Zrm ?_).symm;rw[Zl4];grind
   ·rw[QQ,Ym (by grind)]
  ·rw[Ue (λr=>q (E.1 r)),Ym (by grind)]
 by_cases j:GG c=2
 ·simp only[j,Ui,Int.reduceEq,Uh]
  by_cases q:ZoU (K5 c)=1
  ·rw[Uc (e.2 q)]
   by_cases H:(Gy c).length=0
   ·rw[QP,Zf2 c 1 h,Bq]
    by_cases d:Ztq c 1
    ·rw[Uc (ZX d),Ym (by grind)]
    ·rw[Ue (by rw[Ym d];simp),Zf2 c 2 h,Zf2 c 3 h]
     simp only[Bq];congr 2;refine(Zrm ?_).symm;by_cases a:Ztq c 2<;>by_cases b:Ztq c 3<;>simp only[ZX,Ym,a,b,not_false_eq_true]<;>grind
   ·rw[QQ,Ym (by grind)]
  ·rw[Ue (λr=>q (e.1 r)),Ym (by grind)]
 by_cases R:GG c=3
 ·simp only[R,Ui,Int.reduceEq,Uh]
  by_cases q:ZoU (K5 c)=1
  ·rw[Uc (e.2 q)]
   by_cases H:(Gy c).length=0
   ·rw[QP,Zf2 c 1 h,Bq]
    by_cases d:Ztq c 1
    ·rw[Uc (ZX d),Zf2 c 2 h,Bq]
     by_cases f:Ztq c 2
     ·rw[Uc (ZX f),Zf2 c 3 h,Bq]
      congr 2;refine(Zrm ?_).symm;rw[UU,<-Bool.not_eq_true,YL];grind
     ·rw[Ue (by rw[Ym f];simp),Ym (by grind)]
    ·rw[Ue (by rw[Ym d];simp),Ym (by grind)]
   ·rw[QQ,Ym (by grind)]
  ·rw[Ue (λr=>q (e.1 r)),Ym (by grind)]
 ·simp only[i,j,R,Uh]
  rw[Ym (by grind)]
def ZFs (c:Zn):Prop:=Za6 (GR c)=true/\Zk6 (K5 c)/\((Gh c).length<=8/\Zee (Gh c) (λk a=>ZAR c a/\Apart (Gh c) k a))/\(0<=G6 c/\G6 c<=100000)/\(0<=G7 c/\G7 c<=100000)/\ZhY c
def Zk3 (c:Zn):Prop:=Za6 (GR c)=true/\Zk6 (K5 c)/\((Gh c).length<=8/\Zee (Gh c) (λk a=>ZmV c a/\Apart (Gh c) k a))/\(0<=G6 c/\G6 c<=100000)/\(0<=G7 c/\G7 c<=100000)/\ZhY c
theorem ZBU {i:Nat} {p q:XF} (Z:i<j) (g:l[i]?=some p) (b:l[j]?=some q) (c:Gj p=true) (C:Gj q=true):2<=ZoU l:=by
 unfold ZoU;have e:l.countP (λp=>Gj p)=(l.take j).countP (λp=>Gj p)+(l.drop j).countP (λp=>Gj p):=by rw[<-Kp,KG]
 have d:0<(l.take j).countP (λp=>Gj p):=KM.2 ⟨p,UA.2 ⟨i,by grind⟩,c⟩;have f:0<(l.drop j).countP (λp=>Gj p):=KM.2 ⟨q,UA.2 ⟨0,by grind⟩,C⟩;omega
theorem Zru (h:ZoU l<=1) (m:0<=i):Zsc l i=true<->i=ZlA l:=by
 unfold ZlA Zao Zsc;constructor
 ·intro q
  split at q
  ·rename_i p d
   split
   ·rename_i j b
    obtain⟨s,H,a⟩:=Ko.1 b;have g:l[j]?=some l[j]:=Ua s;rcases KJ i.toNat j with t|y|t
    ·grind
    ·omega
    ·have:=ZBU t g d H q;omega
   grind
  ·cases q
 ·intro c
  split at c
  ·rename_i j b
   obtain⟨s,H,a⟩:=Ko.1 b;grind
  ·omega
theorem Zxj (h:Zk6 l):Zsc l ((l.length:Int)-1)=false:=by
 have f:=h.1;have g:l[l.length-1]?=some l[l.length-1]:=Ua (by omega);have:=((h.2.2.2 _ _ g).2.1 (by omega)).2.2;unfold Zsc;rw[show((l.length:Int)-1).toNat=l.length-1 by omega,g];exact this
theorem Zyw {c:Zn} (g:Zk6 (K5 c)) (H:ZoU (K5 c)<=1) (a:ZH):ZAR c a<->ZmV c a:=by
 have f:=g.1;have s:0<=Gk a->(Zsc (K5 c) (Gk a)=true<->Gk a=ZlA (K5 c)):=λh=>Zru H h;have z:0<=Gp a->(Zsc (K5 c) (Gp a)=true<->Gp a=ZlA (K5 c)):=λh=>Zru H h;have t:=Zxj g;have r:∀i,Zsc (K5 c) i=true->i<((K5 c).length:Int):=by
  intro i l;unfold Zsc at l;grind
 unfold ZAR ZmV;grind
theorem ZhY.ZoU {c:Zn} (h:ZhY c):ZoU (K5 c)<=1:=by
 rcases h with h|h|h
 all_goals grind
theorem ZA8:ZFs c<->Zk3 c:=by
 unfold ZFs Zk3;constructor
 ·rintro⟨a,b,⟨c1,d⟩,e,f,g⟩
  exact⟨a,b,⟨c1,λk x l=>⟨(Zyw b g.ZoU x).1 (d k x l).1,(d k x l).2⟩⟩,e,f,g⟩
 ·rintro⟨a,b,⟨c1,d⟩,e,f,g⟩
  exact⟨a,b,⟨c1,λk x l=>⟨(Zyw b g.ZoU x).2 (d k x l).1,(d k x l).2⟩⟩,e,f,g⟩
theorem Zq3 (h:sm ZcQ c):Zjf c=some (tr (Zk3 c)):=by
 have q:=ZAj h;unfold Zjf;refine Zan (Xm (by rw[Zgp];exact ZcT Iff.rfl) (λ_=>Xm (ZpW _ q.pins) (λg=>Xm (ZpV c q) (λ_=>Xm (Jt _ _ _) (λ_=>Xm (Jt _ _ _) (λ_=>ZaM (ZoR c q g))))))) ?_;exact(ZA8 c)
def ZgR (l:List ZH):List Int:=(List.range 6).map (λ(j:Nat)=>((l.countP (λa=>decide (Gb a=(j:Int))):Nat):Int))
theorem Zet (l:List ZH) (h:j<6):(ZgR l)[j]?=some ((l.countP (λa=>decide (Gb a=(j:Int))):Nat):Int):=by
 simp[ZgR,Ku h]
theorem Zo0 (h:Zro c) (H:∀a∈Gh c,1<=Gb a/\Gb a<=5):Zhh c=some (ZgR (Gh c)):=by
 unfold Zhh;have q:=Zw h.arcs;have m:List.replicate (Int.toNat (6:Int)) (0:Int)=ZgR ((Gh c).take 0):=by simp[ZgR];decide
 rw[m];refine YP (l:=Gh c) (ρ:=List Int) (λk=>((k:Int),ZgR ((Gh c).take k),())) (step:=λv=>Zcl c v.1 v.2.1)
  (λk a x t=>?_) (by simp only[Zcl,Uf,Uh,Uo])
 obtain⟨e,f⟩:=H a (Ud x);have n:Gb a=((Gb a).toNat:Int):=by omega
 have K:∀j:Nat,((Gh c).take k).countP (λa=>decide (Gb a=(j:Int)))<=1048576:=by
  intro j;have d:=List.countP_le_length (p:=λa=>decide (Gb a=(j:Int))) (l:=(Gh c).take k);rw[Uj]at d;omega
 simp only[Zcl,show(k:Int)<((Gh c).length:Int)from by omega,Ui,Zo,x,Bq];rw[Yw (by omega) (Zet _ (show(Gb a).toNat<6 by omega)),Bq,YW (K _),YW];congr 3;rw[Prod.mk.injEq];refine⟨?_,rfl⟩;apply Ux;intro j;by_cases b:(Gb a).toNat=j
 ·subst b
  rw[UD (by simp[ZgR];omega),Zet _ (by omega),Xa x,Kp];congr 2;rw[List.countP_cons,List.countP_nil];simp[<-n]
 ·rw[UL b]
  by_cases I:j<6
  ·rw[Zet _ I,Zet _ I,Xa x,Kp]
   congr 2;rw[List.countP_cons,List.countP_nil];have:¬Gb a=(j:Int):=by omega
   simp[this]
  ·rw[Uy (by simp[ZgR];omega),Uy (by simp[ZgR];omega)]
theorem ZpC (j:Nat):0<(Gh c).countP (λa=>decide (Gb a=(j:Int)))<->Ztq c j:=by
 rw[KM];simp only[Ul,Ztq]
theorem Zn1 (h:Zro c) (g:Zk6 (K5 c)) (e:GG c=1) :
  Zx (λv=>ZdF c ((ZoU (K5 c):Int),true) v.1) ((0:Int),())=some (.inr (tr (ZhY c))):=by
 have f:=g.1;have j:=g.2.1;have s:=Zw h.truth;have E:Wq (((K5 c).length:Int)-1)=((K5 c).length:Int)-1:=QR;have i:IntKind.u64.wrap (((K5 c).length:Int)-1)=((K5 c).length:Int)-1:=IntWalk.u64_in _ (by omega);rw[V3 (Qy h.truth) (λk x=>0<=x/\x<=1) (bad:=.inr false) (good:=.inr (tr (ZoU (K5 c)=0/\(Gy c).length=2 ^ ((K5 c).length-1))))
  (λk x l H _=>by
   simp only[ZdF,show (k:Int)<((Gy c).length:Int) from by omega,Ui,Zo,l,Bq,ZfB,within_iff];exact ⟨λr=>by rw[Uc r],λr=>by rw[Ue r]⟩)
  (λ_=>by
   simp only[ZdF,Uf,Uh,E,i];by_cases q:ZoU (K5 c)=0
   ·rw[QP,Ra,show(((K5 c).length:Int)-1).toNat=(K5 c).length-1 by omega,ZFx]
    congr 2;congr 1;refine(Zrm ?_).symm;rw[Ul];constructor
    ·intro r;exact⟨q,by omega⟩
    ·intro r;rw[r.2]
   ·rw[QQ,Ym (λr=>q r.1)])]
 congr 1;by_cases a:Zee (Gy c) (λk x=>0<=x/\x<=1)
 ·rw[QY a]
  congr 1;refine J6 ?_;have b:ZiI (Gy c) 0 1:=λx l=>by
   obtain⟨k,H⟩:=UA.1 l;exact a k x H
  unfold ZhY;grind
 ·rw[Qs a,Ym]
  intro r;rcases r with r|r|r
  ·exact a (λk x H=>r.2.2.2 x (Ud H))
  ·have:=r.1;omega
  ·have:=r.1;omega
theorem Zre (V:sm ZcQ c):Zjw c=some (tr (Zk3 c)):=by
  have h:=ZAj V;have W:=Zw h.arcs;unfold Zjw;rw[ZqF c h.pins,Bq];by_cases C:¬Zk6 (K5 c)
  · rw[Qs C,Ym (λr=>C r.2.1)];rfl
  have q:=Classical.not_not.1 C;rw[QY q];simp only[Ui];refine Zan (Xm (P:=Za6 (GR c)=true) (by rw[ZbS _ h.name];exact ZcT Iff.rfl) (λU=>Zi8 (λQ=>Xm (JB _ _ _) (λT=>Xm (JB _ _ _) (λS=>?_))))) (P:=Za6 (GR c)=true/\¬((8:Int)<((Gh c).length:Int))/\(0<=G6 c/\G6 c<=100000)/\(0<=G7 c/\G7 c<=100000)/\(Zee (Gh c) (λk a=>ZmV c a/\Apart (Gh c) k a)/\ZhY c)) ?_
  · rw[V3 (Qy h.arcs) (λk a=>ZmV c a/\Apart (Gh c) k a) (bad:=false) (good:=tr (ZhY c))
      (λk a A z _=>by
        obtain⟨J,L⟩:=ZCm (Zba h.arcs A);simp only[Zgc,show(k:Int)<((Gh c).length:Int)from by omega,Ui,Zo,A,Bq,Zrg c a h.pins J L q.1];have I:Zx (λv=>ZdE c (k:Int) a v.1) ((0:Int),())=some (sel (∀j,j<k->∀o,(Gh c)[j]?=some o->¬ZhL o a) (.inl (Wq ((k:Int)+1),())) (.inr false)):=by
          refine Zqb k (by omega) (λj=>∀o,(Gh c)[j]?=some o->¬ZhL o a) (λj n=>?_) (λ_=>by simp only[ZdE,Uf,Uh]);obtain⟨o,m⟩:∃o,(Gh c)[j]?=some o:=⟨_,Ua (by omega)⟩;simp only[ZdE,show(j:Int)<(k:Int)from by omega,Ui,Zo,m,Bq];have e:(∀o',some o=some o'->¬ZhL o' a)<->¬ZhL o a:=⟨λr=>r o rfl,λr o' Y=>by injection Y with Y;subst Y;exact r⟩
          rw[e];unfold ZhL;constructor
          · intro r
            split
            · split
              · split
                · exact absurd ⟨‹_›,‹_›,‹_›⟩ r
                · rfl
              · rfl
            · rfl
          · intro r
            have r:=Classical.not_not.1 r;rw[Uc r.1,Uc r.2.1,Uc r.2.2]
        have p:Apart (Gh c) k a<->(∀j,j<k->∀o,(Gh c)[j]?=some o->¬ZhL o a):=⟨λr j n o m=>r j o n m,λr j o n m=>r j n o m⟩;by_cases H:ZmV c a
        · rw[Uc (ZX H),I]
          constructor
          · intro r;rw[QY (p.1 r.2)]
          · intro r;rw[Qs (λF=>r ⟨H,p.2 F⟩)]
        · rw[Ue (by rw[Ym H];simp)]
          exact ⟨λr=>absurd r.1 H,λ_=>rfl⟩)
      (λH=>by
        have s:=Zo0 c h (λa M=>by
          obtain ⟨k,z⟩:=UA.1 M;exact (H k a z).1.kind)
        have G:atI (ZgR (Gh c)) (1:Int)=some (((Gh c).countP (λa=>decide (Gb a=((1:Nat):Int))):Nat):Int):=Yw (by omega) (Zet _ (by omega));have D:atI (ZgR (Gh c)) (2:Int)=some (((Gh c).countP (λa=>decide (Gb a=((2:Nat):Int))):Nat):Int):=Yw (by omega) (Zet _ (by omega));have E:atI (ZgR (Gh c)) (3:Int)=some (((Gh c).countP (λa=>decide (Gb a=((3:Nat):Int))):Nat):Int):=Yw (by omega) (Zet _ (by omega));have c1:=ZpC c 1;have c2:=ZpC c 2;have R:=ZpC c 3;simp only[Zgc,Uf,Uh,s,Bq,G,D,E];generalize (Gh c).countP (λa=>decide (Gb a=((1:Nat):Int)))=n1 at c1 ⊢;generalize (Gh c).countP (λa=>decide (Gb a=((2:Nat):Int)))=N at c2 ⊢;generalize (Gh c).countP (λa=>decide (Gb a=((3:Nat):Int)))=y at R ⊢;by_cases K:GG c=1
        · rw[Uc K]
          exact Zn1 c h q K
        rw[Ue K];have l:∀(b:Bool),(b=true<->ZhY c)->(some (.inr b):Option ((Int×Unit)⊕Bool))=some (.inr (tr (ZhY c))):=λb O=>by rw[Zrm O]
        have t:Ztq c 1<->0<n1:=c1.symm;have u:Ztq c 2<->0<N:=c2.symm;have w:Ztq c 3<->0<y:=R.symm;have i:ZhY c<->(GG c=2/\ZoU (K5 c)=1/\(Gy c).length=0/\¬0<n1/\(0<N<->¬0<y))\/(GG c=3/\ZoU (K5 c)=1/\(Gy c).length=0/\0<n1/\0<N/\¬0<y):=by
          unfold ZhY;rw[t,u,w];constructor
          · rintro(r|r|r)
            · exact absurd r.1 K
            · exact .inl r
            · exact .inr r
          · rintro(r|r)
            · exact .inr (.inl r)
            · exact .inr (.inr r)
        by_cases B:GG c=2
        · rw[Uc B]
          split
          · split
            · split
              · rename_i a b d
                refine l _ ?_;rw[i];simp only[Kj,Ks]at d;constructor
                · intro r;cases r
                · intro r;omega
              · rename_i a b d
                refine l _ ?_;rw[i,Ul];simp only[Kj,Ks]at d;omega
            · refine l _ ?_
              rw[i];constructor
              · intro r;cases r
              · intro r;omega
          · refine l _ ?_
            rw[i];constructor
            · intro r;cases r
            · intro r;omega
        rw[Ue B];repeat' split
        all_goals
          refine l _ ?_;rw[i];first
            |(rw[Ul];omega)
            | (constructor
               · intro r;cases r
               · intro r;omega))]
    congr 1;by_cases H:Zee (Gh c) (λk a=>ZmV c a/\Apart (Gh c) k a)
    · rw[QY H];exact J6 ⟨λx=>⟨H,x⟩,λx=>x.2⟩
    · rw[Qs H,Ym (λx=>H x.1)]
  · unfold Zk3
    constructor
    · rintro⟨a,b,c1,d,e,f⟩
      exact⟨a,q,⟨by omega,e⟩,c1,d,f⟩
    · rintro⟨a,b,⟨c1,d⟩,e,f,g⟩
      exact⟨a,by omega,e,f,d,g⟩
variable {l:List α}
theorem ZwI {s:α}:s ∉ l.take k<->∀(j:Nat) (q:α),j<k->l[j]?=some q->q≠s:=by
 constructor
 ·intro h j q b H e
  refine h (UA.2 ⟨j,?_⟩);rw[UC,Uc b,H,e]
 ·intro h R
  obtain⟨j,b⟩:=UA.1 R;rw[UC]at b;split at b
  ·rename_i c;exact h j s c b rfl
  ·cases b
theorem Zt2 (f:α->List UInt8) (l:List α):JI (l.map f) l.length<->Zee l (λk x=>Za6 (f x)=true/\∀(j:Nat) (q:α),j<k->l[j]?=some q->f q≠f x):=by
 constructor
 ·intro h k x H
  have m:=(Ub.1 H).1;obtain⟨d,a⟩:=h k (f x) m (by simp[H]);refine⟨d,λj q c b=>ZwI.1 a j (f q) c (by simp[b])⟩
 ·intro h j s c e
  simp only[UK,Kk]at e;obtain⟨x,H,rfl⟩:=e;obtain⟨d,a⟩:=h j x H;refine⟨d,ZwI.2 (λi q g b=>?_)⟩;simp only[UK,Kk]at b;obtain⟨y,n,rfl⟩:=b;exact a i y g n
def ZiQ (l:List Zn):List (List UInt8):=l.map GR
def Zts (a:Zr):Prop:=(K9 a).length<=8/\(∀c∈K9 a,Zk3 c)/\JI (ZiQ (K9 a)) (K9 a).length
theorem Zrd {a:Zr} (h:sm QW a):sm (.sl ZcQ) (K9 a):=h.1
theorem Zef {P:α->Prop}:Zee l (λ_ x=>P x)<->∀x∈l,P x:=by
 constructor
 ·intro h x a
  obtain⟨k,H⟩:=UA.1 a;exact h k x H
 ·intro h k x H
  exact h x (Ud H)
theorem ZkR:sel P (tr Q) false=tr (P/\Q):=by
 by_cases h:P
 ·rw[QY h];exact J6 ⟨λq=>⟨h,q⟩,λq=>q.2⟩
 ·rw[Qs h,Ym (λq=>h q.1)]
variable (a:Zr)
theorem ZnA (h:sm QW a):Zgn a=some (tr (Zts a)):=by
 have b:=Zrd h;have s:=Zw b;unfold Zgn;have:=Zid (l:=K9 a) (ρ:=Bool) (λk=>((ZiQ (K9 a)).take k,(k:Int),())) (λ_ c=>Zk3 c) (step:=λv=>JN a v.1 v.2.1) (bad:=false) (good:=tr ((K9 a).length<=8/\JI (ZiQ (K9 a)) (K9 a).length))
  (λk c x e _=>by
   have f:(ZiQ (K9 a))[k]?=some (GR c):=by simp[ZiQ,x]
   simp only[JN,show(k:Int)<((K9 a).length:Int)from by omega,Ui,Zo,x,Bq,Zq3 c (Zba b x)];rw[Zi (by simp only[Uj,Uz,ZiQ,U1];omega),Xa f,YW];constructor
   ·intro r;rw[Uc (ZX r)]
   ·intro r;rw[Ue (by rw[Ym r];simp)])
  (λd=>by
   have E:(ZiQ (K9 a)).take (K9 a).length=ZiQ (K9 a):=by rw[show(K9 a).length=(ZiQ (K9 a)).length by simp[ZiQ],Uo]
   have n:(ZiQ (K9 a)).length=(K9 a).length:=by simp[ZiQ]
   simp only[JN,Uf,Uh,E];by_cases H:(K9 a).length<=8
   ·rw[QP,Zct _ (by rw[n];omega),Bq,n]
    congr 2;exact J6 ⟨λq=>⟨H,q⟩,λq=>q.2⟩
   ·rw[QQ,Ym (λq=>H q.1)])
 refine(show Zx (λv=>JN a v.1 v.2.1) (([]:List (List UInt8)),(0:Int),())=_ from this).trans ?_;rw[ZkR];congr 1;refine J6 ?_;rw[Zef];exact⟨λq=>⟨q.2.1,q.1,q.2.2⟩,λq=>⟨q.2.1,q.1,q.2.2⟩⟩
variable {f:α->List UInt8}
theorem Zp0 {x:α} (g:k<=1048576) (c:k<=l.length) {step:Int×Unit->Option ((Int×Unit)⊕ρ)}
  (s:∀(j:Nat) (y:α),j<k->l[j]?=some y->step ((j:Int),())=some (if f y=f x then .inr bad else .inl (Wq ((j:Int)+1),())))
  (d:step ((k:Int),())=some (.inr good)):Zx step ((0:Int),())=some (sel (∀(j:Nat) (q:α),j<k->l[j]?=some q->f q≠f x) good bad):=by
 rw[Zqb k (by omega) (λj=>∀ q,l[j]?=some q->f q≠f x) (bad:=bad) (good:=good) (λj H=>by
  have W:l[j]?=some l[j]:=Ua (by omega);rw[s j _ H W];constructor
  ·intro r;rw[Ue (r _ W)]
  ·intro r
   rw[Uc];apply UT;intro a;refine r (λq b=>?_);rw[W] at b;injection b with b;subst b;exact a) (λ_=>d)]
 congr 1;have e:(∀j,j<k->∀q,l[j]?=some q->f q≠f x)<->(∀(j:Nat) (q:α),j<k->l[j]?=some q->f q≠f x):=⟨λh j q H b=>h j H q b,λh j H q b=>h j q H b⟩;rw[propext e]
theorem Zn2 (h:sm QW a):Zgv a=some (tr (Zts a)):=by
 have b:=Zrd h;have s:=Zw b;unfold Zgv;rw[V3 (Qy b) (λk c=>Zk3 c/\∀ (j:Nat) (q:Zn),j<k->(K9 a)[j]?=some q->GR q≠GR c) (bad:=false) (good:=tr ((K9 a).length<=8))
  (λk c H g _=>by
   simp only[ZdW,show(k:Int)<((K9 a).length:Int)from by omega,Ui,Zo,H,Bq,Zre c (Zba b H)];by_cases z:Zk3 c
   ·rw[Uc (ZX z),Zp0 (f:=GR) (l:=K9 a) (x:=c) (k:=k) (by omega) (by omega) (bad:=.inr false) (good:=.inl (Wq ((k:Int)+1),()))
     (λj y e i=>by
      simp only[ZdV,show (j:Int)<(k:Int) from by omega,Ui,Zo,i,Bq];split<;>rfl)
     (by simp only[ZdV,Uf,Uh])]
    constructor
    ·intro r;rw[QY r.2]
    ·intro r;rw[Qs (λq=>r ⟨z,q⟩)]
   ·rw[Ue (by rw[Ym z];simp)]
    exact ⟨λr=>absurd r.1 z,λ_=>rfl⟩)
  (λ_=>by
   simp only[ZdW,Uf,Uh];congr 2;exact (Zrm (by rw[Ul];omega)).symm)]
 rw[ZkR];congr 1;refine J6 ?_;unfold Zts;rw[ZiQ,Zt2,<-Zef];constructor
 ·rintro⟨q,m⟩
  exact⟨m,λk x H=>(q k x H).1,λk x H=>⟨(q k x H).1.1,(q k x H).2⟩⟩
 ·rintro⟨m,Q,d⟩
  exact⟨λk x H=>⟨Q k x H,(d k x H).2⟩,m⟩
theorem ZgS (l:List (List UInt8)) (a:l.length<=1048576) (V:∀s∈l,s.length<=4611686018427387904):ZdH l=some (tr (JI l l.length)):=by
 unfold ZdH;rw[V3 (show Len l by show l.length<=4611686018427387904;omega) (λk s=>Za6 s=true/\∀ (j:Nat) (q:List UInt8),j<k->l[j]?=some q->id q≠id s) (bad:=false) (good:=true)
  (λk s h H _=>by
   simp only[ZeE,show(k:Int)<(l.length:Int)from by omega,Ui,Zo,h,Bq,ZbS s (V s (Ud h))];by_cases z:Za6 s=true
   ·rw[Uc z,Zp0 (f:=id) (l:=l) (x:=s) (k:=k) (by omega) (by omega) (bad:=.inr false) (good:=.inl (Wq ((k:Int)+1),()))
     (λj y b i=>by
      simp only[ZeD,show (j:Int)<(k:Int) from by omega,Ui,Zo,i,Bq,id];split<;>rfl)
     (by simp only[ZeD,Uf,Uh])]
    constructor
    ·intro r;rw[QY r.2]
    ·intro r;rw[Qs (λq=>r ⟨z,q⟩)]
   ·rw[Ue z]
    exact ⟨λr=>absurd r.1 z,λ_=>rfl⟩)
  (λ_=>by simp only[ZeE,Uf,Uh]),ZiV]
 congr 1;refine J6 ?_;have:=Zt2 id l;rw[List.map_id]at this;exact this.symm
def Vu (d:Zb):List (List UInt8):=(KY d).map Gv
def ZdU (d:Zb):List (List UInt8):=(Ga d).map GQ
def Zl2 (d:Zb):Prop:=(KY d).length<=14/\(K1 d).length<=30/\(Ga d).length<=8/\JI (Vu d) (Vu d).length/\JI (K1 d) (K1 d).length/\JI (ZdU d) (ZdU d).length
theorem gather (b:l.length<=1048576) (f:α->List UInt8) {step:List (List UInt8)×Int×Unit->Option ((List (List UInt8)×Int×Unit)⊕ρ)}
  (q:∀(k:Nat) (x:α) (o:List (List UInt8)),l[k]?=some x->(k:Int)<(l.length:Int)->o.length=k->step (o,(k:Int),())=Zt ((o.length+[f x].length)*16<=140737488355328) (some (.inl (o++[f x],Wq ((k:Int)+1),()))))
  (H:step (l.map f,(l.length:Int),())=some (.inr good)):Zx step (([]:List (List UInt8)),(0:Int),())=some good:=by
 refine(show Zx step (([]:List (List UInt8)),(0:Int),())=some good from YP (l:=l) (λk=>((l.map f).take k,(k:Int),())) (λk x H a=>?_) ?_)
 ·have n:(l.map f)[k]?=some (f x):=by simp[H]
  have h:((l.map f).take k).length=k:=by rw[Uj,U1];omega
  rw[q k x _ H (by omega) h,Zi (by rw[h];simp;omega),Xa n,YW]
 ·have E:(l.map f).take l.length=l.map f:=by rw[show l.length=(l.map f).length by simp,Uo]
  simp only[E];exact H
theorem Zck {d:Zb} (h:sm Y8 d):sm (.sl Js) (KY d)/\sm (.sl Zo6) (Ga d)/\sm (.sl .str) (K1 d):=by
 refine⟨?_,?_,?_⟩
 ·first|exact h.1|exact h.2.1|exact h.2.2.1|exact h.2.2.2.1
 ·first|exact h.1|exact h.2.1|exact h.2.2.1|exact h.2.2.2.1
 ·first|exact h.1|exact h.2.1|exact h.2.2.1|exact h.2.2.2.1
theorem Zlr {x:Ze} (h:sm Js x):sm .str (Gv x)/\sm (.sl (.int .i64)) (K7 x):=by
 refine⟨?_,?_⟩
 ·first|exact h.1|exact h.2.1|exact h.2.2.1|exact h.2.2.2.1
 ·first|exact h.1|exact h.2.1|exact h.2.2.1|exact h.2.2.2.1
theorem ZDs {x:Z8} (h:sm Zo6 x):sm .str (GQ x):=by
 first|exact h.1|exact h.2.1|exact h.2.2.1|exact h.2.2.2.1
variable (d:Zb)
theorem Zje (h:sm Y8 d):Zbv d=some (tr (Zl2 d)):=by
 obtain⟨j,m,n⟩:=Zck h;have s:=Zw j;have S:=Zw m;have t:=Zw n;unfold Zbv;refine gather (l:=KY d) s Gv (λk x o g H r=>?_) ?_
 ·simp only[ZaP,H,Ui,Zo,g,Bq]
 simp only[ZaP,Uf,Uh];have i:(Vu d).length=(KY d).length:=by simp[Vu]
 have p:(ZdU d).length=(Ga d).length:=by simp[ZdU]
 refine gather (l:=Ga d) S GQ (λk x o g H r=>?_) ?_
 ·simp only[ZaO,H,Ui,Zo,g,Bq]
 simp only[ZaO,Uf,Uh];rw[show List.map GQ (Ga d)=ZdU d from rfl,show List.map Gv (KY d)=Vu d from rfl];simp only[i,p,Zct _ (show(Vu d).length<=4611686018427387904 by omega),Zct _ (show(ZdU d).length<=4611686018427387904 by omega),Zct _ (show(K1 d).length<=4611686018427387904 by omega),Bq];unfold Zl2;rw[i,p];by_cases a:(KY d).length<=14
 ·rw[QP]
  by_cases b:(K1 d).length<=30
  ·rw[QP]
   by_cases c:(Ga d).length<=8
   ·rw[QP]
    by_cases e:JI (Vu d) (KY d).length
    ·rw[Uc (ZX e)]
     by_cases f:JI (K1 d) (K1 d).length
     ·rw[Uc (ZX f)]
      grind
     ·rw[Ue (by rw[Ym f];simp),Ym (λq=>f q.2.2.2.2.1)]
    ·rw[Ue (by rw[Ym e];simp),Ym (λq=>e q.2.2.2.1)]
   ·rw[QQ,Ym (λq=>c q.2.2.1)]
  ·rw[QQ,Ym (λq=>b q.2.1)]
 ·rw[QQ,Ym (λq=>a q.1)]
def ZoC (n:Nat) (s:List Int):List Int:=(List.range n).map (λ(j:Nat)=>((s.countP (λx=>decide (x=(j:Int))):Nat):Int))
theorem ZkD (n:Nat) (s:List Int):(ZoC n s).length=n:=by simp[ZoC]
theorem Zsd (n:Nat):ZoC n []=List.replicate n 0:=by
 apply Ux;intro i;simp only[ZoC,List.countP_nil,UK,Kb,Ku];grind
variable {s:List Int}
theorem Zja (h:j<n:=by omega):(ZoC n s)[j]?=some ((s.countP (λx=>decide (x=(j:Int))):Nat):Int):=by
 simp[ZoC,h]
variable {x:Int}
theorem ZD5 (m:0<=x) (d:x<(n:Int)):atI (ZoC n s) x=some ((s.countP (λy=>decide (y=x)):Nat):Int):=by
 refine Yw m ?_;rw[Zja,show(x.toNat:Int)=x by omega]
theorem ZBd (m:0<=x) (d:x<(n:Int)):List.set (ZoC n s) (Int.toNat x) (((s.countP (λy=>decide (y=x)):Nat):Int)+1)=ZoC n (s++[x]):=by
 apply Ux;intro i;rw[UN];by_cases l:i<n
 ·rw[Zja l,Zja l,Kp,ZkD]
  grind
 ·have d:(ZoC n s)[i]?=none:=by rw[Uy];rw[ZkD];omega
  have f:(ZoC n (s++[x]))[i]?=none:=by rw[Uy];rw[ZkD];omega
  grind
theorem Zj6 (m:0<=x) (d:x<(n:Int)) (q:s.length<=1048576000) (F:List Int->Option τ) :
  ((atI (ZoC n s) x).bind λy=>F (List.set (ZoC n s) (Int.toNat x) (Wq (y+1))))=F (ZoC n (s++[x])):=by
 have f:=List.countP_le_length (p:=λy=>decide (y=x)) (l:=s);rw[ZD5 m d,Bq,QR,ZBd m d]
def Qo (x:Ze):Int:=(K7 x).getLastD 0
def ZbE (d:Zb) (n:Int):Prop:=0<=n/\n<=((K1 d).length:Int)-1
def ZjI (a:Zr) (d:Zb) (x:Ze):Prop :=
 (0<=Gq x/\Gq x<=((K9 a).length:Int)-1)/\(∃c,(K9 a)[(Gq x).toNat]?=some c/\(K7 x).length=(K5 c).length)/\∀n∈K7 x,ZbE d n
def Zk7 (d:Zb) (p:Z8):Prop:=(1<=GC p/\GC p<=2)/\ZbE d (GH p)
def ZoE (d:Zb):List Int:=(KY d).map Qo++((Ga d).filter (λp=>decide (GC p=1))).map GH
def ZiJ (d:Zb):Prop:=∀x∈ZoC (K1 d).length (ZoE d),x=1
def Qj (a:Zr) (d:Zb):Prop:=Zts a/\Zl2 d/\(∀x∈KY d,ZjI a d x)/\(∀p∈Ga d,Zk7 d p)/\ZiJ d
theorem ZjI.last {a:Zr} {d:Zb} {x:Ze} (h:ZjI a d x) (l:Zts a) (V:(K7 x).length<=1048576):atI (K7 x) (Wq (((K7 x).length:Int)-1))=some (Qo x)/\ZbE d (Qo x):=by
 obtain⟨_,⟨c,q,b⟩,H⟩:=h;have f:2<=(K5 c).length:=(l.2.1 c (Ud q)).2.1.1;unfold Qo;cases n:K7 x with
 |nil=>grind
 |cons y r =>
  rw[n]at V;rw[Zk9 V (by simp),Zo];grind
variable (n:Int)
theorem ZdR (h:sm Y8 d):Xo d n=some (tr (ZbE d n)):=by
 have t:=Zw (Zck h).2.2;unfold Xo;rw[show Xr (K1 d)=some ((K1 d).length:Int)from rfl,Bq,QR];exact ZaM (Jt _ _ _)
theorem Zix (a:Zr) (x:Ze) (N:sm Y8 d) (H:sm QW a) (l:sm Js x):ZaE d a x=some (tr (ZjI a d x)):=by
 have s:=Zw (Zrd H);unfold ZaE;rw[show Q7 (K9 a)=some ((K9 a).length:Int)from rfl,Bq,QR];refine Zan (P:=(0<=Gq x/\Gq x<=((K9 a).length:Int)-1)/\ZjI a d x) (Xm (Jt _ _ _) (λw=>?_)) ⟨λq=>q.2,λq=>⟨q.1,q⟩⟩;obtain⟨c,f,z⟩:=Zrt w.1 (show Gq x<((K9 a).length:Int) by omega);rw[f,Bq];refine Zan (P:=((K7 x).length:Int)=((K5 c).length:Int)/\∀n∈K7 x,ZbE d n) (YG (λm=>?_)) ?_
 ·rw[Vf (Qy (Zlr l).2) (λn=>!tr (ZbE d n)) (λn _=>by
   unfold QO;show (Xo d n).bind _=_;rw[ZdR d n N];rfl),Bq]
  refine ZcT ?_;rw[UU,List.any_eq_false];constructor
  ·intro q n h
   have:=q n h;simp only[UU,Bool.not_eq_false]at this;exact(YL _).1 this
  ·intro q n h
   simp only[UU,Bool.not_eq_false];exact ZX (q n h)
 ·constructor
  ·rintro⟨Q,b⟩;exact⟨w,⟨c,z,by omega⟩,b⟩
  ·rintro⟨_,⟨L,Q,b⟩,e⟩
   grind
theorem Zwb {d:Zb} {p:Z8} (l:(Ga d)[k]?=some p) (s:List Int) :
  s++(((Ga d).take (k+1)).filter (λp=>decide (GC p=1))).map GH=(if GC p=1 then(s++(((Ga d).take k).filter (λp=>decide (GC p=1))).map GH)++[GH p]else s++(((Ga d).take k).filter (λp=>decide (GC p=1))).map GH):=by
 rw[Xa l,Kh,U8];grind
theorem ZyZ {d:Zb} (k m:Nat):(((KY d).take m).map Qo++(((Ga d).take k).filter (λp=>decide (GC p=1))).map GH).length<=(KY d).length+(Ga d).length:=by
 grind
theorem ZoQ (e:sm QW a) (N:sm Y8 d):Zg4 a d=some (tr (Qj a d)):=by
 obtain⟨c,f,g⟩:=Zck N;have S:=Zw c;have w:=Zw f;have y:=Zw g;unfold Zg4;refine Zan (P:=Zts a/\Zl2 d/\(Zee (KY d) (λ_ x=>ZjI a d x)/\(Zee (Ga d) (λ_ p=>Zk7 d p)/\ZiJ d))) (Xm (ZnA a e) (λj=>Xm (Zje d N) (λu=>?_))) (by rw[Zef,Zef];exact Iff.rfl);rw[Ra,Ra,Ra,Ra];have:=Zid (l:=KY d) (ρ:=Bool) (λk=>((k:Int),ZoC (K1 d).length (((KY d).take k).map Qo),())) (λ_ x=>ZjI a d x) (step:=λv=>Zcd a d v.1 v.2.1) (bad:=false) (good:=tr (Zee (Ga d) (λ_ p=>Zk7 d p)/\ZiJ d))
  (λk x h m _=>by
   have G:=Zba c h;simp only[Zcd,show(k:Int)<((KY d).length:Int)from by omega,Ui,Zo,h,Bq,Zix d a x N e G];constructor
   ·intro r
    obtain⟨E,i⟩:=r.last j (Zw (Zlr G).2);rw[Uc (ZX r),E,Bq,Zj6 i.1 (by have:=i.2;omega) (by grind) (F:=λo=>some (Sum.inl (Wq ((k:Int)+1),o,()))),Xa h,U8,YW];rfl
   ·intro r;rw[Ue (by rw[Ym r];simp)])
  (λt=>by
   simp only[Zcd,Uf,Uh,Uo];have:=Zid (l:=Ga d) (ρ:=Int×List Int×Unit⊕Bool) (λk=>((k:Int),ZoC (K1 d).length ((KY d).map Qo++(((Ga d).take k).filter (λp=>decide (GC p=1))).map GH),())) (λ_ p=>Zk7 d p) (step:=λv=>Zaq d v.1 v.2.1) (bad:=.inr false) (good:=.inr (tr (ZiJ d)))
    (λk p h m _=>by
     have s:=ZyZ (d:=d) k (KY d).length;rw[Uo]at s;simp only[Zaq,show(k:Int)<((Ga d).length:Int)from by omega,Ui,Zo,h,Bq,ZdR d _ N,Zwb h];by_cases D:GC p=1
     ·simp only[D,Ui]
      constructor
      ·intro r
       rw[Uc (ZX r.2),Zj6 r.2.1 (by have:=r.2.2;omega) (by omega) (F:=λo=>some (Sum.inl (Wq ((k:Int)+1),o,()))),YW]
      ·intro r
       rw[Ue (by rw[Ym (λq=>r ⟨by omega,q⟩)];simp)]
     ·simp only[D,Uh]
      by_cases b:GC p=2
      ·simp only[b,Ui]
       constructor
       ·intro r
        rw[Uc (ZX r.2),YW]
       ·intro r
        rw[Ue (by rw[Ym (λq=>r ⟨by omega,q⟩)];simp)]
      ·simp only[b,Uh]
       exact ⟨λr=>by have:=r.1;omega,λ_=>trivial⟩)
    (λ_=>by
     simp only[Zaq,Uf,Uh,Uo];rw[Zav (show Len _ by show List.length _<=_;rw[ZkD];omega) (λn=>!decide (n=1)) (λn _=>rfl),Bq];congr 3;refine (Zrm ?_).symm;rw[UU,List.any_eq_false];simp only[UU,Bool.not_eq_false,Ul,Kr,Classical.not_not];exact Iff.rfl)
   refine(show Zx (λv=>Zaq d v.1 v.2.1) ((0:Int),ZoC (K1 d).length ((KY d).map Qo),())=_ from(by simpa using this)).trans ?_;by_cases H:Zee (Ga d) (λ_ p=>Zk7 d p)
   ·rw[QY H];grind
   ·rw[Qs H,Ym (λq=>H q.1)])
 rw[ZkR]at this;refine Eq.trans ?_ this;rw[Kt,KV,Zsd];rfl
theorem Zo1 (m:sm QW a) (N:sm Y8 d):Zhi a d=some (tr (Zee (KY d) (λ_ x=>ZjI a d x)/\Zee (Ga d) (λ_ p=>Zk7 d p))):=by
 obtain ⟨H,b,e⟩:=Zck N;have S:=Zw H;have v:=Zw b;have w:=Zw e;have y:=Zw (Zrd m);have E:Wq (((K1 d).length:Int)-1)=((K1 d).length:Int)-1:=QR;have i:Wq (((K9 a).length:Int)-1)=((K9 a).length:Int)-1:=QR;unfold Zhi;rw[V3 (Qy H) (λ_ x=>ZjI a d x) (bad:=false) (good:=tr (Zee (Ga d) (λ_ p=>Zk7 d p)))
  (λk x l o _=>by
   have G:=Zba H l;simp only[ZeH,show(k:Int)<((KY d).length:Int)from by omega,Ui,Zo,l,Bq,JB,i];by_cases h:0<=Gq x/\Gq x<=((K9 a).length:Int)-1
   ·obtain⟨c,f,z⟩:=Zrt h.1 (show Gq x<((K9 a).length:Int) by omega)
    rw[Uc (ZX h),f,Bq];by_cases g:((K7 x).length:Int)=((K5 c).length:Int)
    ·rw[Uc g,V3 (Qy (Zlr G).2) (λ_ n=>ZbE d n) (bad:=.inr false) (good:=.inl (Wq ((k:Int)+1),()))
      (λj n s t _=>by
       simp only[ZeF,show(j:Int)<((K7 x).length:Int)from by omega,Ui,Zo,s,Bq,JB,E];constructor
       ·intro r;exact Uc (ZX r)
       ·intro r;exact Ue (λq=>r ((YL _).1 q)))
      (λ_=>by simp only[ZeF,Uf,Uh])]
     constructor
     ·intro r;rw[QY (Zef.2 r.2.2)]
     ·intro r;rw[Qs (λq=>r ⟨h,⟨c,z,by omega⟩,Zef.1 q⟩)]
    ·rw[Ue g]
     refine⟨λr=>?_,λ_=>rfl⟩;obtain⟨_,⟨L,Q,u⟩,_⟩:=r;rw[z]at Q;injection Q with Q;subst Q
     exact absurd (by omega) g
   ·rw[Ue (by rw[Ym h];simp)]
    exact ⟨λr=>absurd r.1 h,λ_=>rfl⟩)
  (λ_=>by
   simp only[ZeH,Uf,Uh];rw[V3 (Qy b) (λ_ p=>Zk7 d p) (bad:=.inr false) (good:=.inr true)
    (λk p l o _=>by
     simp only[ZeG,show(k:Int)<((Ga d).length:Int)from by omega,Ui,Zo,l,Bq,JB,E];by_cases h:1<=GC p/\GC p<=2
     ·rw[Uc (ZX h)]
      constructor
      ·intro r;exact Uc (ZX r.2)
      ·intro r;exact Ue (λq=>r ⟨h,(YL _).1 q⟩)
     ·rw[Ue (by rw[Ym h];simp)]
      exact ⟨λr=>absurd r.1 h,λ_=>rfl⟩)
    (λ_=>by simp only[ZeG,Uf,Uh])]
   congr 1;by_cases r:Zee (Ga d) (λ_ p=>Zk7 d p)
   ·rw[QY r,ZX r]
   ·rw[Qs r,Ym r])]
 rw[ZkR]
theorem ZwK (h:∀x∈l,(f x).length<=4611686018427387904):∀s∈l.map f,s.length<=4611686018427387904:=by
 intro s q;obtain⟨x,H,rfl⟩:=Kg.1 q;exact h x H
theorem ZoZ (z:sm QW a) (A:sm Y8 d):Zhf a d=some (tr (Qj a d)):=by
 obtain⟨c,t,u⟩:=Zck A;have S:=Zw c;have R:=Zw t;have Y:=Zw u;unfold Zhf;refine Zan (Xm (Zn2 a z) (λC=>Zi8 (λT=>Zi8 (λU=>Zi8 (λV=>Xm (Zo1 a d z A) (λw=>?_))))))
  (P:=Zts a/\¬(14:Int)<((KY d).length:Int)/\¬(30:Int)<((K1 d).length:Int)/\¬(8:Int)<((Ga d).length:Int)/\(Zee (KY d) (λ_ x=>ZjI a d x)/\Zee (Ga d) (λ_ p=>Zk7 d p))/\(JI (Vu d) (Vu d).length/\JI (ZdU d) (ZdU d).length/\JI (K1 d) (K1 d).length)/\ZiJ d) ?_
 ·have W:(Vu d).length=(KY d).length:=by simp[Vu]
  have X:(ZdU d).length=(Ga d).length:=by simp[ZdU]
  refine gather (l:=KY d) S Gv (λk x o h H J=>?_) ?_
  ·simp only[ZeA,H,Ui,Zo,h,Bq]
  simp only[ZeA,Uf,Uh];refine gather (l:=Ga d) R GQ (λk x o h H J=>?_) ?_
  ·simp only[Zez,H,Ui,Zo,h,Bq]
  simp only[Zez,Uf,Uh];rw[show List.map GQ (Ga d)=ZdU d from rfl,show List.map Gv (KY d)=Vu d from rfl];simp only[ZgS (Vu d) (by omega) (ZwK (λx h=>Zi3 (Zlr (Zuo c h)).1)),ZgS (ZdU d) (by omega) (ZwK (λx h=>Zi3 (ZDs (Zuo t h)))),ZgS (K1 d) (by omega) (λs K=>Zi3 (Zuo u K)),Bq];by_cases n1:JI (Vu d) (Vu d).length
  ·rw[Uc (ZX n1)]
   by_cases N:JI (ZdU d) (ZdU d).length
   ·rw[Uc (ZX N)]
    by_cases y:JI (K1 d) (K1 d).length
    ·rw[Uc (ZX y),Ra,Ra,Ra,Ra]
     have:=YP (l:=KY d) (ρ:=(List (List UInt8))×Int×Unit⊕((List (List UInt8))×Int×Unit⊕Bool)) (λk=>((k:Int),ZoC (K1 d).length (((KY d).take k).map Qo),())) (step:=λv=>Zax d v.1 v.2.1) (good:=.inr (.inr (tr (ZiJ d))))
      (λk x h H=>by
       have G:=Zba c h;obtain ⟨B,E⟩:=(w.1 k x h).last C (Zw (Zlr G).2);simp only[Zax,show (k:Int)<((KY d).length:Int) from by omega,Ui,Zo,h,Bq];rw[B,Bq,Zj6 E.1 (by have:=E.2;omega) (by simp only[U1,Uj];omega) (F:=λo=>some (Sum.inl (Wq ((k:Int)+1),o,()))),Xa h,U8,YW];rfl)
      (by
       simp only[Zax,Uf,Uh,Uo];have:=YP (l:=Ga d) (ρ:=Int×List Int×Unit⊕((List (List UInt8))×Int×Unit⊕((List (List UInt8))×Int×Unit⊕Bool))) (λk=>((k:Int),ZoC (K1 d).length ((KY d).map Qo++(((Ga d).take k).filter (λp=>decide (GC p=1))).map GH),())) (step:=λv=>Zaw d v.1 v.2.1) (good:=.inr (.inr (.inr (tr (ZiJ d)))))
        (λk p h H=>by
         have I:=ZyZ (d:=d) k (KY d).length;rw[Uo]at I;have b:=w.2 k p h;simp only[Zaw,show(k:Int)<((Ga d).length:Int)from by omega,Ui,Zo,h,Bq,Zwb h];by_cases D:GC p=1
         ·simp only[D,Ui]
          rw[Zj6 b.2.1 (by have:=b.2.2;omega) (by omega) (F:=λo=>some (Sum.inl (Wq ((k:Int)+1),o,()))),YW]
         ·simp only[D,Uh]
          rw[YW])
        (by
         simp only[Zaw,Uf,Uh,Uo];rw[V3 (l:=ZoC (K1 d).length ((KY d).map Qo++((Ga d).filter (λp=>decide (GC p=1))).map GH)) (show List.length _<=_ by rw[ZkD];omega) (λ_ x=>x=1) (bad:=.inr (.inr (.inr (.inr false)))) (good:=.inr (.inr (.inr (.inr true))))
          (λk x h H _=>by
           simp only[Zey,show(k:Int)<((ZoC (K1 d).length ((KY d).map Qo++((Ga d).filter (λp=>decide (GC p=1))).map GH)).length:Int)from by omega,Ui,Zo,h,Bq];constructor
           ·intro r;rw[Uc r]
           ·intro r;rw[Ue r])
          (λ_=>by simp only[Zey,Uf,Uh])]
         congr 1;have e:Zee (ZoC (K1 d).length ((KY d).map Qo++((Ga d).filter (λp=>decide (GC p=1))).map GH)) (λ_ x=>x=1)<->ZiJ d:=by
          rw[Zef];exact Iff.rfl
         by_cases r:ZiJ d
         ·rw[QY (e.2 r),ZX r]
         ·rw[Qs (λq=>r (e.1 q)),Ym r])
       refine (show Zx (λv=>Zaw d v.1 v.2.1) ((0:Int),ZoC (K1 d).length ((KY d).map Qo),())=_ from (by simpa using this)).trans ?_;rfl)
     rw[Kt,KV,Zsd]at this;refine(show Zx (λv=>Zax d v.1 v.2.1) ((0:Int),List.replicate (K1 d).length 0,())=_ from this).trans ?_;congr 3;exact J6 ⟨λq=>⟨⟨n1,N,y⟩,q⟩,λq=>q.2⟩
    ·rw[Ue (by rw[Ym y];simp),Ym (λq=>y q.1.2.2)]
   ·rw[Ue (by rw[Ym N];simp),Ym (λq=>N q.1.2.1)]
  ·rw[Ue (by rw[Ym n1];simp),Ym (λq=>n1 q.1.1)]
 ·unfold Qj Zl2
  rw[Zef,Zef];constructor
  ·rintro⟨f,L,M,O,⟨g,i⟩,⟨j,m,n⟩,Q⟩
   exact⟨f,⟨by omega,by omega,by omega,j,n,m⟩,g,i,Q⟩
  ·rintro⟨f,⟨L,M,O,j,n,m⟩,g,i,Q⟩
   exact⟨f,by omega,by omega,by omega,⟨g,i⟩,⟨j,m,n⟩,Q⟩
def cat {α β:Type} (f:Nat->α->List β):Nat->List α->List β
 |_,[]=>[]
 |k,x::r=>f k x++cat f (k+1) r
theorem ZeT {α β:Type} (f:Nat->α->List β):∀(l r:List α) (m:Nat),cat f m (l++r)=cat f m l++cat f (m+l.length) r
 |[],r,m=>by simp[cat]
 |x::l,r,m=>by
  simp only[U4,cat,Um,ZeT f l r,Uk];rw[show m+1+l.length=m+(l.length+1) by omega]
theorem ZcS {f:Nat->α->List β} {x:α} (h:l[k]?=some x):cat f 0 (l.take (k+1))=cat f 0 (l.take k)++f k x:=by
 have H:=(Ub.1 h).1;rw[Xa h,ZeT];simp only[cat,Us,Uj,Un];rw[show min k l.length=k by omega]
theorem Xx {α β:Type} {f:Nat->α->List β} {y:β}:∀{l:List α} {m:Nat},y∈cat f m l<->∃(k:Nat) (x:α),l[k]?=some x/\y∈f (m+k) x
 |[],m=>by simp[cat]
 |z::r,m=>by
  simp only[cat,Ut,Xx (l:=r)];constructor
  ·rintro(h|⟨k,x,d,H⟩)
   ·exact⟨0,z,rfl,h⟩
   ·exact⟨k+1,x,by simpa using d,by rw[show m+(k+1)=m+1+k by omega];exact H⟩
  ·rintro⟨k,x,d,H⟩
   cases k with
   |zero=>simp at d;subst d;exact .inl H
   |succ k=>exact .inr ⟨k,x,by simpa using d,by rw[show m+1+k=m+(k+1) by omega];exact H⟩
theorem ZaN {α β:Type} {f:Nat->α->List β} {c:Nat}:∀{l:List α} {m:Nat},(∀k,∀x∈l,(f k x).length<=c)->(cat f m l).length<=c*l.length
 |[],m,_=>by simp[cat]
 |z::r,m,h=>by
  simp only[cat,Ug,Um];have d:=h m z (by simp);have a:=ZaN (f:=f) (l:=r) (m:=m+1) (λk x H=>h k x (by simp[H]));rw[Nat.mul_add];omega
theorem XG (f:Nat->α->List β) (a:List β) {step:List β×Int×Unit->Option ((List β×Int×Unit)⊕ρ)}
  (q:∀(k:Nat) (x:α),l[k]?=some x->k<l.length->step (a++cat f 0 (l.take k),(k:Int),())=some (.inl ((a++cat f 0 (l.take k))++f k x,((k+1:Nat):Int),())))
  (h:step (a++cat f 0 l,(l.length:Int),())=some (.inr good)):Zx step (a,(0:Int),())=some good:=by
 have:=YP (l:=l) (ρ:=ρ) (λk=>(a++cat f 0 (l.take k),(k:Int),())) (step:=step) (good:=good) (λk x h H=>by
  rw[q k x h H,ZcS h,Uk]) (by simp only[Uo];exact h)
 simpa[cat]using this
abbrev Pl:=Int×Int×Int×Bool×Unit
def YR (i:Nat) (x:Ze):List Pl:=cat (λj n=>[((i:Int),(j:Int),n,decide ((j:Int)=Wq (((K7 x).length:Int)-1)),())]) 0 (K7 x)
def ZbQ (j:Nat) (p:Z8):List Pl:=[((-1:Int),(j:Int),GH p,decide (GC p=1),())]
def places (d:Zb):List Pl:=cat YR 0 (KY d)++cat ZbQ 0 (Ga d)
theorem Zxs (i:Nat) (x:Ze):(YR i x).length<=(K7 x).length:=by
 have:=ZaN (f:=λj n=>[((i:Int),(j:Int),n,decide ((j:Int)=Wq (((K7 x).length:Int)-1)),())]) (c:=1) (l:=K7 x) (m:=0) (λ_ _ _=>by simp);simpa[YR]using this
structure Few (d:Zb):Prop where
 insts:(KY d).length<=14
 ports:(Ga d).length<=8
 nets:∀x∈KY d,(K7 x).length<=5
variable {a:Zr} {d:Zb}
theorem Qj.few (h:Qj a d):Few d:=by
 refine⟨h.2.1.1,h.2.1.2.2.1,λx l=>?_⟩;obtain⟨_,⟨c,q,f⟩,_⟩:=h.2.2.1 x l;have:=(h.1.2.1 c (Ud q)).2.1.2.1;omega
theorem ZeU (h:Few d) (k:Nat):(cat YR 0 ((KY d).take k)).length<=70:=by
 have:=ZaN (f:=YR) (c:=5) (l:=(KY d).take k) (m:=0) (λi x a=>by
  have H:=Zxs i x;have b:=h.nets x (KI a);omega)
 have H:=h.insts;rw[Uj]at this;omega
theorem Zj5 (h:Few d) (k:Nat):(cat ZbQ 0 ((Ga d).take k)).length<=8:=by
 have:=ZaN (f:=ZbQ) (c:=1) (l:=(Ga d).take k) (m:=0) (λi x a=>by simp[ZbQ]);have H:=h.ports;rw[Uj]at this;omega
theorem ZT (h:Few d):(places d).length<=78:=by
 have H:=ZeU h (KY d).length;have f:=Zj5 h (Ga d).length;rw[Uo]at H f;unfold places;rw[Ug];omega
variable (d:Zb)
theorem ZQ (h:Few d):Z0 d=some (places d):=by
 have a:=h.insts;have e:=h.ports;unfold Z0;refine XG (l:=KY d) YR [] (λk x H g=>?_) ?_
 ·have i:=h.nets x (Ud H)
  have q:=ZeU h k;simp only[Uv,ZbL,show(k:Int)<((KY d).length:Int)from by omega,Ui,Zo,H,Bq];refine XG (l:=K7 x) (λj n=>[((k:Int),(j:Int),n,decide ((j:Int)=Wq (((K7 x).length:Int)-1)),())]) _ (λj n b u=>?_) ?_
  ·have T:=ZaN (f:=λj n=>[((k:Int),(j:Int),n,decide ((j:Int)=Wq (((K7 x).length:Int)-1)),())]) (c:=1) (l:=(K7 x).take j) (m:=0) (λ_ _ _=>by simp)
   rw[Uj]at T;simp only[ZbJ,show(j:Int)<((K7 x).length:Int)from by omega,Ui,Zo,b,Bq];rw[Zi (by rw[Ug,Uz];omega),YW]
  ·simp only[ZbJ,Uf,Uh]
   rw[YW];rfl
 ·have q:=ZeU h (KY d).length
  rw[Uo]at q;simp only[Uv,ZbL,Uf,Uh];refine XG (l:=Ga d) ZbQ _ (λj p b u=>?_) ?_
  ·have T:=Zj5 h j
   simp only[ZbK,show(j:Int)<((Ga d).length:Int)from by omega,Ui,Zo,b,Bq];rw[Zi (by rw[Ug,Uz];omega),YW];rfl
  ·simp only[ZbK,Uf,Uh];rfl
theorem ZN (h:Few d):YK d=some (places d):=by
 have a:=h.insts;have e:=h.ports;unfold YK;refine XG (l:=KY d) YR [] (λk x H g=>?_) ?_
 ·have i:=h.nets x (Ud H)
  have q:=ZeU h k;simp only[Uv,Zd1,show(k:Int)<((KY d).length:Int)from by omega,Ui,Zo,H,Bq];refine XG (l:=K7 x) (λj n=>[((k:Int),(j:Int),n,decide ((j:Int)=Wq (((K7 x).length:Int)-1)),())]) _ (λj n b u=>?_) ?_
  ·have T:=ZaN (f:=λj n=>[((k:Int),(j:Int),n,decide ((j:Int)=Wq (((K7 x).length:Int)-1)),())]) (c:=1) (l:=(K7 x).take j) (m:=0) (λ_ _ _=>by simp)
   rw[Uj]at T;simp only[ZdZ,show(j:Int)<((K7 x).length:Int)from by omega,Ui,Zo,b,Bq];rw[Zi (by rw[Ug,Uz];omega),YW]
  ·simp only[ZdZ,Uf,Uh]
   rw[YW];rfl
 ·have q:=ZeU h (KY d).length
  rw[Uo]at q;simp only[Uv,Zd1,Uf,Uh];refine XG (l:=Ga d) ZbQ _ (λj p b u=>?_) ?_
  ·have T:=Zj5 h j
   simp only[Zd0,show(j:Int)<((Ga d).length:Int)from by omega,Ui,Zo,b,Bq];rw[Zi (by rw[Ug,Uz];omega),YW];rfl
  ·simp only[Zd0,Uf,Uh];rfl
def QZ (net:Int) (i:Nat) (x:Pl):List Int:=if x.2.2.1=net then(if x.2.2.2.1=true then[]else[(i:Int)])else[]
def sinks (d:Zb) (net:Int):List Int:=cat (QZ net) 0 (places d)
variable (net:Int)
theorem Zat (l:List Pl) (m:Nat):(cat (QZ net) m l).length<=l.length:=by
 have:=ZaN (f:=QZ net) (c:=1) (l:=l) (m:=m) (λi x _=>by
  unfold QZ;split
  ·split<;>simp
  ·simp)
 omega
theorem Zbx (h:Few d):ZbM d net=some (sinks d net):=by
 have g:=ZT h;unfold ZbM;rw[ZQ d h,Bq];refine XG (l:=places d) (QZ net) [] (λk x H a=>?_) ?_
 ·have q:=Zat net ((places d).take k) 0
  rw[Uj]at q;simp only[Uv,Zcb,show(k:Int)<((places d).length:Int)from by omega,Ui,Zo,H,Bq,QZ,YW (show k<=1048576 by omega)];split
  ·split
   ·rw[Un]
   ·rw[Zi (by
     show(List.length _+1)*8<=_;have:(cat (QZ net) 0 ((places d).take k)).length<=78:=by omega
     omega)]
  ·rw[Un]
 ·simp only[Uv,Zcb,Uf,Uh];rfl
theorem Xb (h:Few d):Xg d net=some (sinks d net):=by
 have g:=ZT h;unfold Xg;rw[ZN d h,Bq];refine XG (l:=places d) (QZ net) [] (λk x H a=>?_) ?_
 ·have q:=Zat net ((places d).take k) 0
  rw[Uj]at q;simp only[Uv,ZeI,show(k:Int)<((places d).length:Int)from by omega,Ui,Zo,H,Bq,QZ,YW (show k<=1048576 by omega)];split
  ·split
   ·rw[Un]
   ·rw[Zi (by
     show(List.length _+1)*8<=_;have:(cat (QZ net) 0 ((places d).take k)).length<=78:=by omega
     omega)]
  ·rw[Un]
 ·simp only[Uv,ZeI,Uf,Uh];rfl
def loads (d:Zb):List Int:=((places d).filter (λx=>!x.2.2.2.1)).map (λx=>x.2.2.1)
theorem Zqw (net:Int):∀(l:List Pl) (m:Nat),(cat (QZ net) m l).length=((l.filter (λx=>!x.2.2.2.1)).map (λx=>x.2.2.1)).countP (λy=>decide (y=net))
 |[],m=>by simp[cat]
 |x::r,m=>by
  simp only[cat,Ug,Zqw net r,QZ];obtain⟨a,b,n,d,u⟩:=x;cases d
  ·by_cases e:n=net
   ·simp[e,Nat.add_comm]
   ·simp[e]
  ·simp
theorem Zls {w:Zq} (h:sm ZcR w):sm (.sl (.int .i64)) (K3 w)/\sm (.sl (.int .i64)) (Gx w)/\sm (.sl (.int .i64)) (GD w)/\sm (.sl (.int .i64)) (Gm w):=by
 refine⟨?_,?_,?_,?_⟩;all_goals first|exact h.1|exact h.2.1|exact h.2.2.1|exact h.2.2.2.1
variable {b:Za}
theorem Jb (h:sm Yg b):sm QW (K4 b)/\sm Y8 (KX b)/\sm (.sl ZcR) (KZ b):=by
 refine⟨?_,?_,?_⟩;all_goals first|exact h.1|exact h.2.1|exact h.2.2.1|exact h.2.2.2.1
def Zpp (w:Zq) (k:Nat) (x:Int):Prop:=(k=0->x=-1/\(Gx w)[0]?=some 0)/\(0<k->0<=x/\x<=(k:Int)-1)
def Zcq (w:Zq) (s:Int):Prop :=
 (1<=(K3 w).length/\(K3 w).length<=8)/\(Gx w).length=(K3 w).length/\(GD w).length=(K3 w).length/\((Gm w).length:Int)=s/\
 Zee (K3 w) (Zpp w)/\ZiI (Gx w) 0 1000/\ZiI (GD w) 0 500/\ZiI (Gm w) 0 (((K3 w).length:Int)-1)
theorem Zh1 (l:List Int) (o h:Int) (q:l.length<=1048576):XT l o h=some (tr (ZiI l o h)):=by
 rw[ZdB l o h];exact ZcT (Zl4 _ _ _)
variable (w:Zq)
theorem ZlH (c:sm ZcR w) (d:1<=(K3 w).length:=by omega) (f:(Gx w).length=(K3 w).length:=by omega):Zel w=some (tr (Zee (K3 w) (Zpp w))):=by
 obtain ⟨a,A,j,b⟩:=Zls c;have s:=Zw a;unfold Zel;have F:(Gx w)[0]?=some (Gx w)[0]:=Ua (by omega);rw[V3 (Qy a) (Zpp w) (bad:=false) (good:=true)
  (λk x l e _=>by
   simp only[ZcL,show(k:Int)<((K3 w).length:Int)from by omega,Ui,Zo,l,Bq];unfold Zpp;by_cases H:k=0
   ·subst H
    rw[Uc (by rfl),show atI (Gx w) 0=some (Gx w)[0]from F,F];grind
   ·rw[QQ,QP,Jt,Bq,QR]
    constructor
    ·intro r;rw[Uc (ZX (r.2 (by omega)))]
    ·intro r;rw[Ue (λq=>r ⟨λh=>absurd h H,λ_=>(YL _).1 q⟩)])
  (λ_=>by simp only[ZcL,Uf,Uh]),ZiV]
variable (s:Int)
theorem Zlh (c:sm ZcR w):ZhC w s=some (tr (Zcq w s)):=by
 obtain⟨a,A,j,k⟩:=Zls c;have h:=Zw a;have S:=Zw A;have t:=Zw j;have b:=Zw k;unfold ZhC;simp only[VE,Bq,YE (show(-9223372036854775808:Int)<=((K3 w).length:Int)-1 by omega)];refine Zan (Xm (Jt _ _ _) (λQ=>YG (λq=>YG (λd=>Xm (ZlH w c) (λf=>Xm (Zh1 _ _ _ S) (λg=>Xm (Zh1 _ _ _ t) (λi=>YG (λe=>ZaM (Zh1 _ _ _ b))))))))) ?_;unfold Zcq;grind
theorem ZvV {l:List Int} {o:Int}:ZiI l o i<->∀(k:Nat) (x:Int),l[k]?=some x->o<=x/\x<=i:=by
 unfold ZiI;constructor
 ·intro h k x H;exact h x (Ud H)
 ·intro h x H
  obtain⟨k,a⟩:=UA.1 H;exact h k x a
theorem ZiD (y:sm ZcR w):ZhM w s=some (tr (Zcq w s)):=by
 obtain⟨A,u,v,n⟩:=Zls y;have S:=Zw A;have D:=Zw u;have G:=Zw v;have I:=Zw n;have E:Wq (((K3 w).length:Int)-1)=((K3 w).length:Int)-1:=QR;unfold ZhM;refine Zan (Zi8 (λo=>Zi8 (λp=>YG (λt=>YG (λz=>YG (λg=>?_)))))) ?_
  (P:=¬((K3 w).length:Int)<1/\¬(8:Int)<((K3 w).length:Int)/\((Gx w).length:Int)=((K3 w).length:Int)/\((GD w).length:Int)=((K3 w).length:Int)/\((Gm w).length:Int)=s/\
   (Zee (K3 w) (λk x=>(∀ c,(GD w)[k]?=some c->0<=c/\c<=500)/\(∀ r,(Gx w)[k]?=some r->0<=r/\r<=1000)/\Zpp w k x)/\ZiI (Gm w) 0 (((K3 w).length:Int)-1)))
 ·rw[V3 (Qy A) (λk x=>(∀ c,(GD w)[k]?=some c->0<=c/\c<=500)/\(∀ r,(Gx w)[k]?=some r->0<=r/\r<=1000)/\Zpp w k x) (bad:=false) (good:=tr (ZiI (Gm w) 0 (((K3 w).length:Int)-1)))
   (λk x b d _=>by
    have a:(GD w)[k]?=some (GD w)[k]:=Ua (by omega);have F:(Gx w)[k]?=some (Gx w)[k]:=Ua (by omega);simp only[Zge,show(k:Int)<((K3 w).length:Int)from by omega,Ui,Zo,a,F,b,Bq,JB,Option.some.injEq,forall_eq'];generalize (GD w)[k]=c at a;generalize (Gx w)[k]=r at F;by_cases Q:0<=c/\c<=500
    ·rw[Uc (ZX Q)]
     by_cases m:0<=r/\r<=1000
     ·rw[Uc (ZX m)]
      unfold Zpp;by_cases f:k=0
      ·simp_all
      ·rw[QQ,QP,YE (show(-9223372036854775808:Int)<=(k:Int)-1 by omega)]
       constructor
       ·intro H;rw[Uc (ZX (H.2.2.2 (by omega)))]
       ·intro H;rw[Ue (λq=>H ⟨Q,m,λh=>absurd h f,λ_=>(YL _).1 q⟩)]
     ·rw[Ue (λq=>m ((YL _).1 q))]
      grind
    ·rw[Ue (λq=>Q ((YL _).1 q))]
     grind)
   (λ_=>by
    simp only[Zge,Uf,Uh];rw[V3 (Qy n) (λ_ x=>0<=x/\x<=((K3 w).length:Int)-1) (bad:=.inr false) (good:=.inr true)
     (λk x b d _=>by
      simp only[Zgd,show(k:Int)<((Gm w).length:Int)from by omega,Ui,Zo,b,Bq,JB,E];constructor
      ·intro H;rw[Uc (ZX H)]
      ·intro H;rw[Ue (λq=>H ((YL _).1 q))])
     (λ_=>by simp only[Zgd,Uf,Uh])]
    congr 1;have e:Zee (Gm w) (λ_ x=>0<=x/\x<=((K3 w).length:Int)-1)<->ZiI (Gm w) 0 (((K3 w).length:Int)-1):=Zef;by_cases H:ZiI (Gm w) 0 (((K3 w).length:Int)-1)
    ·rw[QY (e.2 H),ZX H]
    ·rw[Qs (λq=>H (e.1 q)),Ym H]),ZkR]
 ·unfold Zcq
  rw[ZvV (l:=Gx w),ZvV (l:=GD w)];constructor
  ·rintro⟨o,p,t,z,g,i,j⟩
   refine⟨⟨by omega,by omega⟩,by omega,by omega,g,λk x b=>(i k x b).2.2,λk r F=>?_,λk c a=>?_,j⟩
   ·have d:=(Ub.1 F).1
    exact(i k _ (Ua (by omega))).2.1 r F
   ·have d:=(Ub.1 a).1
    exact(i k _ (Ua (by omega))).1 c a
  ·rintro⟨o,p,t,g,i,j,B,C⟩
   exact⟨by omega,by omega,by omega,by omega,g,λk x b=>⟨λc a=>B k c a,λr F=>j k r F,i k x b⟩,C⟩
def Zis (b:Za):Prop :=
 Qj (K4 b) (KX b)/\(KZ b).length=(K1 (KX b)).length/\Zee (KZ b) (λk w=>Zcq w ((sinks (KX b) (k:Int)).length:Int))
variable {d:Zb} {x:Pl}
theorem Qe (h:Qj a d) (l:x∈places d):ZbE d x.2.2.1:=by
 unfold places at l;rcases Ut.1 l with l|l
 ·obtain⟨i,z,H,T⟩:=Xx.1 l
  unfold YR at T;obtain⟨j,n,b,f⟩:=Xx.1 T;simp only[Uw]at f;subst f;exact(h.2.2.1 z (Ud H)).2.2 n (Ud b)
 ·obtain⟨j,p,b,g⟩:=Xx.1 l
  simp only[ZbQ,Uw]at g;subst g;exact(h.2.2.2.1 p (Ud b)).2
theorem XO (b:Za) (h:sm Yg b):QI b=some (tr (Zis b)):=by
 obtain⟨a,A,j⟩:=Jb h;have t:=Zw j;unfold QI;refine Zan (Xm (ZoZ _ _ a A) (λd=>YG (λQ=>?_))) ?_
  (P:=Qj (K4 b) (KX b)/\((KZ b).length:Int)=((K1 (KX b)).length:Int)/\Zee (KZ b) (λk w=>Zcq w ((sinks (KX b) (k:Int)).length:Int)))
 ·rw[V3 (Qy j) (λk w=>Zcq w ((sinks (KX b) (k:Int)).length:Int)) (bad:=false) (good:=true)
   (λk w l H _=>by
    simp only[Zfy,show(k:Int)<((KZ b).length:Int)from by omega,Ui,Zo,l,Bq,Xb _ _ d.few,ZiD w _ (Zba j l)];constructor
    ·intro r;rw[Uc (ZX r)]
    ·intro r;rw[Ue (λq=>r ((YL _).1 q))])
   (λ_=>by simp only[Zfy,Uf,Uh]),ZiV]
 ·unfold Zis
  grind
theorem ZxA {l:List Pl} (h:l[k]?=some x) :
  (((l.take (k+1)).filter (λx=>!x.2.2.2.1)).map (λx=>x.2.2.1))=if x.2.2.2.1=true then(((l.take k).filter (λx=>!x.2.2.2.1)).map (λx=>x.2.2.1))else(((l.take k).filter (λx=>!x.2.2.2.1)).map (λx=>x.2.2.1))++[x.2.2.1]:=by
 rw[Xa h,Kh,U8];grind
theorem Zc7 (b:Za) (e:sm Yg b):ZeW b=some (tr (Zis b)):=by
 obtain⟨A,c,j⟩:=Jb e;have t:=Zw j;unfold ZeW;refine Zan (Xm (ZoQ _ _ A c) (λd=>YG (λQ=>?_))) ?_
  (P:=Qj (K4 b) (KX b)/\((KZ b).length:Int)=((K1 (KX b)).length:Int)/\Zee (KZ b) (λk w=>Zcq w ((sinks (KX b) (k:Int)).length:Int)))
 ·rw[Ra,Ra,Ra,Ra,ZQ _ d.few,Bq]
  have i:=ZT d.few;have:=YP (l:=places (KX b)) (ρ:=Bool) (λk=>((k:Int),ZoC (KZ b).length ((((places (KX b)).take k).filter (λx=>!x.2.2.2.1)).map (λx=>x.2.2.1)),())) (step:=λv=>ZcW b (places (KX b)) v.1 v.2.1) (good:=tr (Zee (KZ b) (λk w=>Zcq w ((sinks (KX b) (k:Int)).length:Int))))
   (λk x h a=>by
    have f:=Qe d (Ud h);have H:=List.length_filter_le (λx:Pl=>!x.2.2.2.1) ((places (KX b)).take k);rw[Uj]at H;simp only[ZcW,show(k:Int)<((places (KX b)).length:Int)from by omega,Ui,Zo,h,Bq,ZxA h];by_cases N:x.2.2.2.1=true
    ·rw[Uc N,Uc N,YW]
    ·rw[Ue N,Ue N,Zj6 f.1 (by have:=f.2;grind) (by grind) (F:=λo=>some (Sum.inl (Wq ((k:Int)+1),o,()))),YW])
   (by
    simp only[ZcW,Uf,Uh,Uo];rw[V3 (Qy j) (λk w=>Zcq w ((sinks (KX b) (k:Int)).length:Int)) (bad:=.inr false) (good:=.inr true)
     (λk w h a _=>by
      have g:(sinks (KX b) (k:Int)).length=_:=Zqw (k:Int) (places (KX b)) 0;simp only[Zfj,show(k:Int)<((KZ b).length:Int)from by omega,Ui,Zo,h,Bq];rw[Zja a,Bq,Zlh w _ (Zba j h),Bq,g];constructor
      ·intro r;rw[Uc (ZX r)]
      ·intro r;rw[Ue (λq=>r ((YL _).1 q))])
     (λ_=>by simp only[Zfj,Uf,Uh])]
    congr 1;by_cases r:Zee (KZ b) (λk w=>Zcq w ((sinks (KX b) (k:Int)).length:Int))
    ·rw[QY r,ZX r]
    ·rw[Qs r,Ym r])
  rw[Kt,List.filter_nil,KV,Zsd]at this;exact this
 ·unfold Zis
  grind
structure Z4 (b:Za):Prop where
 ok:Zis b
 sm:sm Yg b
theorem Zev (Q:ρ->Prop) {step:τ->Option (τ⊕ρ)} (m:I 0 v)
  (q:∀(k:Nat) (x:α) (v:τ),l[k]?=some x->k<l.length->I k v->∃v',step v=some (.inl v')/\I (k+1) v')
  (a:∀v,I l.length v->∃r,step v=some (.inr r)/\Q r):∃r,Zx step v=some r/\Q r :=
 Ze5 l.length I Q m (λk v H h=>.inl (q k l[k] v (Ua H) H h)) a
theorem ZgM (m:0<=i) (d:i<(l.length:Int):=by omega):∃x,atI l i=some x/\x∈l:=by
 obtain⟨x,f,g⟩:=Zrt m d;grind
theorem ZzT (h:Qj a d) (l:x∈places d):∃n,Zaf d a x=some n:=by
 unfold Zaf;split
 ·exact⟨_,rfl⟩
 ·rename_i g
  unfold places at l;rcases Ut.1 l with l|l
  ·obtain⟨i,z,H,T⟩:=Xx.1 l
   unfold YR at T;obtain⟨j,n,b,e⟩:=Xx.1 T;simp only[Uw]at e;subst e;rw[Us]at g;obtain⟨q,⟨c,f,k⟩,_⟩:=h.2.2.1 z (Ud H);have m:=(Ub.1 b).1;simp only[Gn,ZL.pin,Us,Zo,H,Bq];rw[Yw q.1 f,Bq];grind
  ·obtain⟨j,p,b,o⟩:=Xx.1 l
   simp only[ZbQ,Uw]at o;grind
variable {y:Int}
theorem Zkm {net:Int} (h:y∈sinks d net):0<=y/\y<((places d).length:Int):=by
 obtain⟨k,x,H,i⟩:=Xx.1 h;have:=(Ub.1 H).1;unfold QZ at i;grind
variable {w:Zq} {s x:Int}
theorem Zcq.par (h:Zcq w s) (l:(K3 w)[k]?=some x) (H:0<k):0<=x/\x<=(k:Int)-1:=(h.2.2.2.2.1 k x l).2 H
theorem Zjo (h:Z4 b) (C:(KZ b)[k]?=some w):∃r,Y4 b (k:Int)=some r/\r.length=(K3 w).length:=by
 have F:=h.ok.2.2 k w C;have x:=h.ok.1;have f:=x.few;obtain⟨⟨Q,S⟩,lr,U,ls,M,O,N,n⟩:=F;have J:=ZT f;have K:=Zat (k:Int) (places (KX b)) 0;have B:(sinks (KX b) (k:Int)).length<=78:=by unfold sinks;omega
 unfold Y4;rw[Zo,C,Bq];unfold ZG;rw[Zi (by simp;omega),Bq,ZQ _ f,Bq,Zbx _ _ f,Bq];refine Zev (l:=sinks (KX b) (k:Int)) (λm v=>v.1=(m:Int)/\v.2.1.length=(K3 w).length) _ ⟨rfl,by simp;omega⟩ ?_ ?_
 ·rintro m y ⟨i,l,⟨⟩⟩ D P ⟨e,H⟩
  simp only at e H;subst e;have t:(Gm w)[m]?=some (Gm w)[m]:=Ua (by omega);generalize (Gm w)[m]=z at t;have u:=n z (Ud t);obtain⟨q,d,_⟩:=ZgM (l:=l) u.1;obtain⟨s,L⟩:=Zkm (Ud D);obtain⟨p,o,a⟩:=ZgM s L;obtain⟨c,G⟩:=ZzT x a;simp only[XI,show(m:Int)<((sinks (KX b) (k:Int)).length:Int)from by omega,Ui,Zo,D,t,Bq,d,o,G];exact⟨_,rfl,by rw[YW],by simp[H]⟩
 ·rintro⟨i,l,⟨⟩⟩ ⟨e,H⟩
  simp only at e H;subst e;simp only[XI,Uf,Uh];have:=Zgi (σ:=Int×List Int×Unit) (ρ:=(Int×List Int×Unit)⊕List Int) (step:=λv=>Qx w v.1 v.2.1) (λv=>(∃j:Nat,v.1=(j:Int)/\j<(K3 w).length)/\v.2.1.length=(K3 w).length) (λv=>v.1.toNat) (λr=>∃R,r=.inr R/\R.length=(K3 w).length) (v:=(Wq ((l.length:Int)-1),l,()))
   ⟨⟨l.length-1,by show Wq _=_;rw[Zk9],by omega⟩,H⟩
   (by
    rintro⟨i,l,⟨⟩⟩ ⟨⟨j,A,I⟩,H⟩;simp only at A H;subst A;simp only[Qx];by_cases E:(0:Int)<(j:Int)
    ·rw[Uc E]
     have g:(K3 w)[j]?=some (K3 w)[j]:=Ua (by omega);generalize (K3 w)[j]=p at g;have a:=(M j p g).2 (by omega);obtain⟨q,d,_⟩:=ZgM (l:=l) a.1;have T:l[j]?=some l[j]:=Ua (by omega);simp only[Zo,g,Bq,d,T];left;refine⟨_,rfl,⟨⟨j-1,by rw[Zk9],by omega⟩,by simp[H]⟩,?_⟩;show(Wq ((j:Int)-1)).toNat<((j:Int)).toNat;rw[Zk9];omega
    grind)
  grind
variable {v:Nat}
theorem Zxz (h:Z4 b) (c:(KZ b)[v]?=some w):J5 b (v:Int)=Y4 b (v:Int):=by
 have H:=h.ok.1.few;unfold J5 Y4;rw[Zo,c,Bq,Bq,show Y3 (GD w)=ZG (GD w)from rfl,ZN _ H,ZQ _ H,Xb _ _ H,Zbx _ _ H];refine US (Option.bind _) ?_;funext l;rw[Bq,Bq,Bq,Bq];refine US (λf=>Zx f _) ?_;funext u;obtain⟨i,l,⟨⟩⟩:=u;simp only[Zay,XI];split
 ·cases atI (sinks (KX b) (v:Int)) i with
  |none =>
   cases atI (Gm w) i with
   |none=>rfl
   |some z =>
    simp only[Bq,Option.bind_none];cases atI l z<;>rfl
  |some y =>
   cases atI (Gm w) i with
   |none=>rfl
   |some z =>
    simp only[Bq];cases atI l z with
    |none=>rfl
    |some q=>rfl
 ·rfl
def ZnG:List Int->Int
 |[]=>0
 |x::r=>x+ZnG r
theorem Zp4:∀l r:List Int,ZnG (l++r)=ZnG l+ZnG r
 |[],r=>by show ZnG r=0+ZnG r;omega
 |x::l,r=>by
  show x+ZnG (l++r)=x+ZnG l+ZnG r;rw[Zp4 l r];omega
theorem ZsA:∀{l:List Int} {i:Nat} {x:Int} (c:Int),l[i]?=some x->ZnG (l.set i (x+c))=ZnG l+c
 |[],i,x,c,h=>by simp at h
 |y::l,0,x,c,h=>by
  have:y=x:=by simpa using h
  subst this;show y+c+ZnG l=y+ZnG l+c;omega
 |y::l,i+1,x,c,h=>by
  show y+ZnG (l.set i (x+c))=y+ZnG l+c;rw[ZsA c (by simpa using h)];omega
theorem Zsz:∀{l:List Int},(∀x∈l,0<=x)->0<=ZnG l/\∀x∈l,x<=ZnG l
 |[],_=>⟨U6 _,λx H=>by cases H⟩
 |y::l,h=>by
  obtain⟨d,f⟩:=Zsz (l:=l) λx H=>h x (UM _ H);have i:=h y UH;refine⟨by show 0<=y+ZnG l;omega,λx H=>?_⟩;show x<=y+ZnG l;rcases UB.1 H with rfl|H
  ·omega
  ·have:=f x H;omega
theorem Zzl:∀{l:List Int} {c:Int},(∀x∈l,x<=c)->ZnG l<=(l.length:Int)*c
 |[],c,_=>by show(0:Int)<=((0:Nat):Int)*c;simp
 |y::l,c,h=>by
  have d:=Zzl (l:=l) (c:=c) λx H=>h x (UM _ H);have f:=h y UH;show y+ZnG l<=((l.length+1:Nat):Int)*c;rw[show((l.length+1:Nat):Int)=(l.length:Int)+1 by omega,Int.add_mul,Int.one_mul];omega
variable {l:List Int}
theorem ZnL {i:Nat} (h:y∈l.set i x):y=x\/y∈l:=(U2 h).symm
theorem Zt9 (h:Qj a d) {x:Pl} (l:x∈places d):∃n,Zaf d a x=some n/\0<=n/\n<=500:=by
 unfold Zaf;split
 ·exact⟨_,rfl,by omega,by omega⟩
 ·rename_i g
  unfold places at l;rcases Ut.1 l with l|l
  ·obtain⟨i,z,e,T⟩:=Xx.1 l
   unfold YR at T;obtain⟨j,n,k,m⟩:=Xx.1 T;simp only[Uw]at m;subst m;rw[Us]at g;obtain⟨q,⟨c,f,o⟩,_⟩:=h.2.2.1 z (Ud e);have r:=(Ub.1 k).1;have s:=(h.1.2.1 c (Ud f)).2.1;simp only[Gn,ZL.pin,Us,Zo,e,Bq];rw[Yw q.1 f,Bq];have H:(K5 c)[j]?=some (K5 c)[j]:=Ua (by omega);rw[H,Bq];have b:=(s.2.2.2 j _ H).1;exact⟨_,rfl,b.1,b.2⟩
  ·obtain⟨j,p,k,H⟩:=Xx.1 l
   simp only[ZbQ,Uw]at H;subst H;exact absurd (by show(-1:Int)<0;omega) g
theorem Zt5 (h:Z4 b) (X:(KZ b)[k]?=some w):∃r,Y4 b (k:Int)=some r/\r.length=(K3 w).length/\∀x∈r,0<=x/\x<=43000:=by
 have hW:=h.ok.2.2 k w X;have U:=h.ok.1;have F:=U.few;obtain⟨⟨l1,l8⟩,lr,lc,ls,ht,ar,Q,E⟩:=hW;have a2:=ZT F;have a5:=Zat (k:Int) (places (KX b)) 0;have W:(sinks (KX b) (k:Int)).length<=78:=by unfold sinks;omega
 have a0:ZnG (GD w)<=4000:=by
  have:=Zzl (l:=GD w) (c:=500) λx a=>(Q x a).2;omega
 unfold Y4;rw[Zo,X,Bq];unfold ZG;rw[Zi (by simp;omega),Bq,ZQ _ F,Bq,Zbx _ _ F,Bq,Uv];refine Zev (l:=sinks (KX b) (k:Int)) (λm v=>v.1=(m:Int)/\v.2.1.length=(K3 w).length/\(∀x∈v.2.1,0<=x)/\ZnG v.2.1<=4000+(m:Int)*500) _ ⟨rfl,by simp;omega,λx a=>(Q x a).1,by simp only;omega⟩ ?_ ?_
 ·rintro m y ⟨i,l,⟨⟩⟩ M hm ⟨u,g,e,f⟩
  simp only at u g e f;subst u;have P:(Gm w)[m]?=some (Gm w)[m]:=Ua (by omega);generalize (Gm w)[m]=z at P;have D:=E z (Ud P);obtain⟨q,d,s⟩:=ZgM (l:=l) D.1;obtain⟨N,O⟩:=Zkm (Ud M);obtain⟨p,J,o⟩:=ZgM N O;obtain⟨c,hc,c0,c5⟩:=Zt9 U o;have a3:=e q s;have a4:=(Zsz e).2 q s;have t:l[z.toNat]?=some q:=by
   unfold atI at d;rw[Uc D.1]at d;exact d
  simp only[XI,show(m:Int)<((sinks (KX b) (k:Int)).length:Int)from by omega,Ui,Zo,M,P,Bq,d,J,hc];rw[QR (n:=q+c)];refine⟨_,rfl,by rw[YW],by simp[g],λx a=>?_,?_⟩
  ·rcases ZnL a with rfl|a
   ·omega
   ·exact e x a
  ·simp only
   rw[ZsA c t];omega
 ·rintro⟨i,l,⟨⟩⟩ ⟨u,g,e,f⟩
  simp only at u g e f;subst u;simp only[XI,Uf,Uh];have hT:ZnG l<=43000:=by omega
  have H:∀x∈l,0<=x/\x<=43000:=λx a=>⟨e x a,by have:=(Zsz e).2 x a;omega⟩;have:=Zgi (σ:=Int×List Int×Unit) (ρ:=(Int×List Int×Unit)⊕List Int) (step:=λv=>Qx w v.1 v.2.1) (λv=>(∃j:Nat,v.1=(j:Int)/\j<(K3 w).length/\ZnG (v.2.1.take (j+1))<=43000)/\v.2.1.length=(K3 w).length/\∀x∈v.2.1,0<=x/\x<=43000) (λv=>v.1.toNat) (λr=>∃R,r=.inr R/\R.length=(K3 w).length/\∀x∈R,0<=x/\x<=43000) (v:=(Wq ((l.length:Int)-1),l,()))
   ⟨⟨l.length-1,by show Wq _=_;rw[Zk9],by omega,by simp only;rw[KC (by omega)];exact hT⟩,g,H⟩
   (by
    rintro⟨i,l,⟨⟩⟩ ⟨⟨j,V,a1,A⟩,g,H⟩;simp only at V g A H;subst V;simp only[Qx];by_cases S:(0:Int)<(j:Int)
    ·rw[Uc S]
     have G:(K3 w)[j]?=some (K3 w)[j]:=Ua (by omega);generalize (K3 w)[j]=p at G;have o:=(ht j p G).2 (by omega);obtain⟨q,d,s⟩:=ZgM (l:=l) o.1;have t:l[p.toNat]?=some q:=by
      unfold atI at d;rw[Uc o.1]at d;exact d
     have T:l[j]?=some l[j]:=Ua (by omega);generalize l[j]=y at T;have M:=H y (Ud T);have hq:=H q s;simp only[Zo,G,Bq,d,T];rw[QR (n:=q+y)];have K:(l.take j)[p.toNat]?=some q:=by rw[UC,QP];exact t
     have I:ZnG ((l.set p.toNat (q+y)).take j)<=43000:=by
      rw[List.take_set,ZsA y K];rw[Xa T,Zp4]at A;have:ZnG [y]=y:=by show y+0=y;omega
      omega
     have C:∀x∈(l.set p.toNat (q+y)).take j,0<=x:=λx a=>by
      rcases ZnL (KI a)with rfl|a
      ·omega
      ·exact(H x a).1
     have L:q+y<=43000:=by
      have B:q+y∈(l.set p.toNat (q+y)).take j:=by
       refine Ud (i:=p.toNat) ?_;rw[UC,QP,UD (by omega)]
      have:=(Zsz C).2 _ B;omega
     left;refine⟨_,rfl,⟨⟨j-1,by rw[Zk9],by omega,?_⟩,by simp[g],λx a=>?_⟩,?_⟩
     ·simp only
      rw[show j-1+1=j by omega];exact I
     ·rcases ZnL a with rfl|a
      ·exact⟨by omega,L⟩
      ·exact H x a
     ·show(Wq ((j:Int)-1)).toNat<((j:Int)).toNat
      rw[Zk9];omega
    ·rw[Ue S]
     right;exact ⟨_,rfl,_,rfl,g,H⟩)
  obtain⟨r,Y,R,rfl,Z⟩:=this;exact⟨R,Y,Z⟩
variable {a A:Int}
theorem Zg0 {b B:Int} (d:0<=a) (f:a<=A) (g:0<=b) (i:b<=B):0<=a*b/\a*b<=A*B :=
 ⟨Int.mul_nonneg d g,Int.mul_le_mul f i g (by omega)⟩
theorem Zqf {p M:Int} (d:-M<=y) (f:y<=M) (g:0<=p:=by omega):-(M*p)<=y*p/\y*p<=M*p:=by
 have a:=Int.mul_le_mul_of_nonneg_right d g;have b:=Int.mul_le_mul_of_nonneg_right f g;rw[Int.neg_mul]at a;exact⟨a,b⟩
def dlF (w:Zq) (ld:List Int):Nat->List Int
 |0=>[0]
 |m+1=>dlF w ld m++[((dlF w ld m)[(((K3 w)[m+1]?).getD 0).toNat]?).getD 0+(((Gx w)[m+1]?).getD 0)*((ld[m+1]?).getD 0)]
theorem ZlB (w:Zq) (ld:List Int):∀m,(dlF w ld m).length=m+1
 |0=>rfl
 |m+1=>by show(dlF w ld m++[_]).length=_;rw[Ug,ZlB w ld m];rfl
theorem Zu8 {o H:Int} (h:∀x∈l,o<=x/\x<=H) (d:o<=0) (f:0<=H) (i:Nat):o<=(l[i]?).getD 0/\(l[i]?).getD 0<=H:=by
 cases e:l[i]? with
 |none=>exact⟨d,f⟩
 |some x=>exact h x (Ud e)
theorem ZyX {w:Zq} {ld:List Int} (F:∀x∈Gx w,0<=x/\x<=1000) (q:∀x∈ld,0<=x/\x<=43000):∀m,∀x∈dlF w ld m,0<=x/\x<=(m:Int)*43000000
 |0,x,l=>by
  have:x=0:=by simpa[dlF]using l
  subst this;omega
 |m+1,x,l=>by
  have R:=ZyX F q m;rcases Ut.1 (show x∈dlF w ld m++[_]from l)with l|l
  ·have:=R x l;omega
  ·rw[Uw.1 l]
   have a:=Zu8 R (by omega) (by omega) (((K3 w)[m+1]?).getD 0).toNat;have b:=Zu8 F (by omega) (by omega) (m+1);have c:=Zu8 q (by omega) (by omega) (m+1);have d:=Zg0 b.1 b.2 c.1 c.2;omega
structure ZuM (b:Za) (k:Nat) (w:Zq) (ld:List Int):Prop where
 wire:(KZ b)[k]?=some w
 n1:1<=(K3 w).length
 n8:(K3 w).length<=8
 nr:(Gx w).length=(K3 w).length
 nl:ld.length=(K3 w).length
 par:∀(m:Nat),m+1<(K3 w).length->∃p,(K3 w)[m+1]?=some p/\0<=p/\p<=(m:Int)
 res:∀x∈Gx w,0<=x/\x<=1000
 lds:∀x∈ld,0<=x/\x<=43000
 snk:∀x∈Gm w,0<=x/\x<=((K3 w).length:Int)-1
 few:(Gm w).length<=1048576
 prog:Y4 b (k:Int)=some ld
 ref:J5 b (k:Int)=some ld
theorem ZHc (h:Z4 b) (c:(KZ b)[k]?=some w):∃ld,ZuM b k w ld:=by
 have F:=h.ok.2.2 k w c;obtain⟨⟨L,S⟩,lr,U,ls,r,O,N,n⟩:=F;obtain⟨nl,l,H,d⟩:=Zt5 h c;have V:=Zw (Zls (Zba (Jb h.sm).2.2 c)).2.2.2;refine⟨nl,c,L,S,lr,H,λm R=>?_,O,d,n,by omega,l,by rw[Zxz h c,l]⟩;have g:(K3 w)[m+1]?=some ((K3 w)[m+1]'R):=Ua _;have:=(r (m+1) _ g).2 (by omega);exact⟨_,g,this.1,by omega⟩
def ndl (w:Zq) (ld:List Int):List Int:=dlF w ld ((K3 w).length-1)
variable {ld:List Int}
theorem ZuM.len (h:ZuM b k w ld):(ndl w ld).length=(K3 w).length:=by
 have:=h.n1;unfold ndl;rw[ZlB];omega
theorem ZuM.bd (h:ZuM b k w ld):∀x∈ndl w ld,0<=x/\x<=301000000:=λx l=>by
 have:=ZyX h.res h.lds _ x l;have:=h.n1;have:=h.n8;omega
theorem ZuM.step (h:ZuM b k w ld) (R:m+1<(K3 w).length) :
  ∃p r l q,(K3 w)[m+1]?=some p/\(Gx w)[m+1]?=some r/\ld[m+1]?=some l/\0<=p/\p<=(m:Int)/\(dlF w ld m)[p.toNat]?=some q/\Wq (q+Wq (r*l))=q+r*l/\dlF w ld (m+1)=dlF w ld m++[q+r*l]:=by
 obtain⟨p,g,p0,p1⟩:=h.par m R;have F:(Gx w)[m+1]?=some ((Gx w)[m+1]'(by have:=h.nr;omega)):=Ua _;have H:ld[m+1]?=some (ld[m+1]'(by have:=h.nl;omega)):=Ua _;have a:(dlF w ld m)[p.toNat]?=some ((dlF w ld m)[p.toNat]'(by rw[ZlB];omega)):=Ua _;have U:=h.res _ (Ud F);have W:=h.lds _ (Ud H);have X:=ZyX h.res h.lds m _ (Ud a);generalize (Gx w)[m+1]'(by have:=h.nr;omega)=r at *;generalize ld[m+1]'(by have:=h.nl;omega)=l at *;generalize (dlF w ld m)[p.toNat]'(by rw[ZlB];omega)=q at *;have Y:=Zg0 U.1 U.2 W.1 W.2;have:=h.n8;refine⟨p,r,l,q,g,F,H,p0,p1,a,by rw[QR (n:=r*l),QR],?_⟩;show dlF w ld m++[_]=_;rw[g,F,H];simp only[UW];rw[a];rfl
theorem ZlV (h:ZuM b k w ld):J9 b (k:Int)=some (ndl w ld):=by
 have n:=h.nl;have H:=h.n1;have g:=h.n8;unfold J9;rw[Zo,h.wire,Bq,h.ref,Bq];refine XC ((K3 w).length-1) (λm v=>v=(dlF w ld m,((m+1:Nat):Int),())) _ rfl ?_ ?_
 ·rintro m _ R rfl
  obtain⟨p,r,l,q,E,i,a,p0,p1,f,c,d⟩:=h.step (m:=m) (by omega);have e:atI (dlF w ld m) p=some q:=Yw p0 f;simp only[Zd2,show((m+1:Nat):Int)<(ld.length:Int)from by omega,Ui,Zo,E,i,a,e,Bq,c];rw[Zi (by rw[ZlB];simp only[Um,Uq];omega),YW];exact .inl ⟨_,rfl,by rw[d]⟩
 ·rintro _ rfl
  simp only[Zd2,show ¬(((K3 w).length-1+1:Nat):Int)<(ld.length:Int)from by omega,Uh];rfl
theorem Zva (h:ZuM b k w ld):Q5 b (k:Int)=some (ndl w ld):=by
 have H:=h.nl;have j:=h.n1;have o:=h.n8;unfold Q5;rw[Zo,h.wire,Bq,h.prog,Bq,Ra,Ra,Ra,Ra];refine XC ((K3 w).length-1) (λm v=>v=(((m+1:Nat):Int),dlF w ld m++List.replicate ((K3 w).length-1-m) (0:Int),())) _ ?_ ?_ ?_
 ·rw[Up,H]
  simp only[Prod.mk.injEq,and_true];refine⟨rfl,?_⟩;show List.replicate (K3 w).length (0:Int)=[0]++List.replicate ((K3 w).length-1-0) 0;rw[show(K3 w).length=((K3 w).length-1)+1 by omega,KB];simp
 ·rintro m _ R rfl
  obtain⟨p,r,l,q,E,i,a,p0,p1,f,c,d⟩:=h.step (m:=m) (by omega);have n:=ZlB w ld m;have e:atI (dlF w ld m++List.replicate ((K3 w).length-1-m) (0:Int)) p=some q:=Yw p0 (by rw[Uu (by omega)];exact f);have g:(dlF w ld m++List.replicate ((K3 w).length-1-m) (0:Int))[m+1]?=some 0:=by
   rw[UI (by omega),n,Kb,QP]
  have T:(dlF w ld m++List.replicate ((K3 w).length-1-m) (0:Int)).length=(K3 w).length:=by
   rw[Ug,UR];omega
  simp only[Qc,T,show((m+1:Nat):Int)<((K3 w).length:Int)from by omega,Ui,Zo,E,i,a,e,g,Bq,c];rw[YW];refine .inl ⟨_,rfl,?_⟩;simp only[Prod.mk.injEq,and_true,true_and,Up];rw[d,List.set_append_right _ _ (by omega),n,show(K3 w).length-1-m=((K3 w).length-1-(m+1))+1 by omega,KB,Nat.sub_self,List.set_cons_zero,Uk];rfl
 ·rintro _ rfl
  have T:(dlF w ld ((K3 w).length-1)++List.replicate ((K3 w).length-1-((K3 w).length-1)) (0:Int)).length=(K3 w).length:=by
   rw[Ug,UR,ZlB];omega
  simp only[Qc,T,show ¬(((K3 w).length-1+1:Nat):Int)<((K3 w).length:Int)from by omega,Uh];rw[Nat.sub_self,List.replicate_zero,Un];rfl
theorem ZDk {l:List Int} (h:Inc l) {i:Nat} {x:Int} (a:l[i]?=some x):∀(m:Nat) (y:Int),l[i+m+1]?=some y->x<y
 |0,y,H=>h i x y a H
 |m+1,y,H=>by
  have q:=(Ub.1 H).1;have T:l[i+m+1]?=some (l[i+m+1]'(by omega)):=Ua _;have d:=ZDk h a m _ T;have f:=h (i+m+1) _ y T H;omega
theorem ZlI (h:Inc l) {i:Nat} (Z:i<j) (H:l[i]?=some x) (a:l[j]?=some y):x<y :=
 ZDk h H (j-i-1) y (by grind)
def On (l:List Int) (x:Int) (j:Nat):Prop:=l[j]?=some x
def Btw (l:List Int) (x:Int) (j:Nat) (y z:Int):Prop:=l[j]?=some y/\l[j+1]?=some z/\y<x/\x<z
variable {c:Int}
theorem ZGd (m:l[0]?=some a) (d:l[l.length-1]?=some c) (h:a<=x) (H:x<=c):(∃j,On l x j)\/∃j y z,Btw l x j y z:=by
 have K:∀(k:Nat) (y:Int),l[k]?=some y->y<=x\/((∃j,On l x j)\/∃j y z,Btw l x j y z):=by
  intro k;induction k with
  |zero =>
   grind
  |succ k I =>
   intro y i;have b:=(Ub.1 i).1;have T:l[k]?=some (l[k]'(by omega)):=Ua _;rcases I _ T with q|q
   ·by_cases w:y<=x
    ·exact .inl w
    ·right
     by_cases e:l[k]'(by omega)=x
     ·exact .inl ⟨k,by unfold On;rw[T,e]⟩
     ·exact .inr ⟨k,_,y,T,i,by omega,by omega⟩
   ·exact .inr q
 rcases K _ c d with q|q
 ·exact .inl ⟨l.length-1,by unfold On;grind⟩
 ·exact q
structure Fst (l:List Int) (x:Int) (p:Nat):Prop where
 le:p<=l.length
 low:∀(i:Nat) (y:Int),i<p->l[i]?=some y->y<x
 up:∀(i:Nat) (y:Int),p<=i->l[i]?=some y->x<=y
theorem Fst.on {p:Nat} (h:Fst l x p) (i:Inc l) (b:On l x j):p=j:=by
 have W:=(Ub.1 b).1;rcases KJ p j with q|q|q
 ·have g:l[p]?=some (l[p]'(by omega)):=Ua _
  have d:=ZlI i q g b;have f:=h.up p _ (UO _) g;omega
 ·exact q
 ·have:=h.low j x q b
  omega
theorem Fst.btw {p:Nat} {z:Int} (h:Fst l x p) (H:Inc l) (b:Btw l x j y z):p=j+1:=by
 obtain⟨d,f,g,i⟩:=b;have W:=(Ub.1 f).1;rcases KJ p (j+1)with q|q|q
 ·have:=h.up j y (by omega) d
  omega
 ·exact q
 ·have:=h.low (j+1) z q f
  omega
theorem ZA2 (g:Inc l) {step:Int×Int×Unit->Option ((Int×Int×Unit)⊕ρ)} {good:Nat->ρ}
  (m:∀(i j:Nat) (y:Int),i<j->j<=l.length->l[(i+j)/2]?=some y->step ((i:Int),(j:Int),())=some (.inl (if y<x then(((i+j)/2+1:Nat):Int)else(i:Int),if y<x then(j:Int)else(((i+j)/2:Nat):Int),())))
  (n:∀i:Nat,i<=l.length->step ((i:Int),(i:Int),())=some (.inr (good i))):∃p,Fst l x p/\Zx step ((0:Int),(l.length:Int),())=some (good p):=by
 obtain⟨r,e,p,rfl,o⟩:=Zgi (step:=step) (v:=((0:Int),(l.length:Int),())) (λv=>∃i j:Nat,v=((i:Int),(j:Int),())/\i<=j/\j<=l.length/\(∀(k:Nat) (y:Int),k<i->l[k]?=some y->y<x)/\∀(k:Nat) (y:Int),j<=k->l[k]?=some y->x<=y) (λv=>(v.2.1-v.1).toNat) (λr=>∃p,r=good p/\Fst l x p)
  ⟨0,l.length,rfl,by omega,UO _,λk y f=>by omega,λk y f a=>by grind⟩ (by
   rintro _ ⟨i,j,rfl,Z,b,h,H⟩;by_cases c:i<j
   ·left
    have a:l[(i+j)/2]?=some (l[(i+j)/2]'(by omega)):=Ua _;generalize l[(i+j)/2]'(by omega)=y at a;refine⟨_,m i j y c b a,?_,?_⟩
    ·by_cases d:y<x
     ·refine⟨(i+j)/2+1,j,by grind,by omega,b,λk z f T=>?_,H⟩
      by_cases w:k=(i+j)/2
      ·grind
      ·have:=ZlI g (by omega) T a;omega
     ·refine⟨i,(i+j)/2,by grind,by omega,by omega,h,λk z f T=>?_⟩
      by_cases w:k=(i+j)/2
      ·grind
      ·have:=ZlI g (by omega) a T;omega
    ·by_cases d:y<x
     ·rw[Uc d,Uc d];simp only;omega
     ·rw[Ue d,Ue d];simp only;omega
   ·right
    have:i=j:=by omega
    subst this;exact ⟨_,n i b,i,rfl,b,h,H⟩)
 exact⟨p,o,e⟩
structure ZGC (l:List Int) (j a b:Int):Prop where
 j0:0<=j
 jl:j<l.length
 jb:0<b->j+1<l.length
 a0:0<a
 b0:0<=b
 ab:a+b<=100000
def wl (j a b:Int):List ZcJ:=if b=0 then[(j,a,())]else[(j,a,()),(j+1,b,())]
theorem ZEk {i:Nat} (h:i+j<=100):Wq (Int.fdiv (IntKind.wrap IntKind.u64 (Wq ((i:Int)+(j:Int)))) ((2:Int)^Min.min (Int.toNat (1:Int)) (IntKind.bits IntKind.u64)))=(((i+j)/2:Nat):Int):=by
 rw[QR (n:=(i:Int)+(j:Int)),show IntKind.wrap IntKind.u64 ((i:Int)+(j:Int))=(i:Int)+(j:Int)from IntWalk.u64_in _ (by omega),show((2:Int)^Min.min (Int.toNat (1:Int)) (IntKind.bits IntKind.u64))=2 from by decide,Int.fdiv_eq_ediv_of_nonneg _ (by omega),QR];omega
variable (x:Int)
theorem ZEv (y:Int):Zgj x y=some (decide (x<y)):=by
 unfold Zgj Zfa;rw[Bq,UQ (show x=x from rfl)];rfl
theorem ZF4:Za9 x=some false:=by
 unfold Za9;rw[UQ (show x=x from rfl)];rfl
theorem ZAa (H:Inc l) (q:l.length<=4) (x:Int):∃p,Fst l x p/\Qb l x=some ((p:Int),decide (l[p]?=some x)):=by
 unfold Qb;refine ZA2 (x:=x) (good:=λp=>((p:Int),decide (l[p]?=some x))) H (λi j y Z b h=>?_) (λi H=>?_)
 ·simp only[Qt,show(i:Int)<(j:Int)from by omega,Ui,ZEk (show i+j<=100 by omega),Zo,h,Bq,ZEv,Ul,YW (show(i+j)/2<=1048576 by omega)]
  by_cases c:y<x
  ·rw[Uc c,Uc c,Uc c]
  ·rw[Ue c,Ue c,Ue c]
 ·simp only[Qt,Uf,Uh]
  by_cases c:i<l.length
  ·have h:l[i]?=some l[i]:=Ua c
   generalize l[i]=y at h;rw[Uc (show(i:Int)<(l.length:Int) by omega),Zo,h,Bq];by_cases e:y=x
   ·rw[Uc e,UQ (by rw[e])]
   ·rw[Ue e,ZF4,Bq,Ue (by simp),decide_eq_false (by rw[Option.some.injEq];exact e)]
  ·rw[Ue (show ¬(i:Int)<(l.length:Int) by omega),Uy (by omega)]
   rfl
theorem ZkS (h:ZgW l) (x:Int):∃j a b,ZGC l j a b/\Zdj l x=some (j,a,b)/\ZgB l x=some (wl j a b,a+b):=by
 obtain⟨Y,S,C,o⟩:=h;have m:l[0]?=some (l[0]'(by omega)):=Ua _;have f:l[l.length-1]?=some (l[l.length-1]'(by omega)):=Ua _;generalize l[0]'(by omega)=X at m;generalize l[l.length-1]'(by omega)=d at f;have P:X<=d:=by
  by_cases q:l.length=1
  ·rw[q]at f
   rw[m]at f;injection f with f
   omega
  ·have:=ZlI o (show 0<l.length-1 by omega) m f
   omega
 have bd:∀{j:Nat} {y:Int},l[j]?=some y->0<=y/\y<=100000:=λ{j y} A=>C y (Ud A);have U:=bd m;have V:=bd f;have a0:atI l 0=some X:=Yw (U6 _) m;have L:atI l (Wq ((↑(List.length l):Int)-(1:Int)))=some d:=by
  rw[QR];exact Yw (by omega) (by rw[<-f];congr 1;omega)
 unfold Zdj ZgB;simp only[a0,L,Bq];have t:X<=Min.min (Max.max x X) d:=by omega
 have u:Min.min (Max.max x X) d<=d:=by omega
 have N:∀(i:Int),Zbc l x X d i=if(0:Int)<=i then
   (atI l i).bind λG =>
   if Min.min (Max.max x X) d=G then
    some (.inr (i,(1:Int),(0:Int)))
   else
    if G<Min.min (Max.max x X) d then
     (atI l (Wq (i+(1:Int)))).bind λT =>
     some (.inr (i,Wq (T-Min.min (Max.max x X) d),Wq (Min.min (Max.max x X) d-G)))
    else
     some (.inl (Wq (i-(1:Int)),()))
  else
   some (.inr ((0:Int),(1:Int),(0:Int))):=λi=>rfl
 generalize Min.min (Max.max x X) d=c at t u N ⊢;obtain⟨p,K,R⟩:=ZAa o S c;rw[R,Bq];rcases ZGd m f t u with⟨j,e⟩|⟨j,y,z,e⟩
 ·have W:=(Ub.1 e).1
  have g:=K.on o e;subst g;refine⟨(p:Int),1,0,⟨by omega,by omega,λq=>by omega,by omega,by omega,by omega⟩,?_,?_⟩
  ·have k:∀(r:Nat),p+r<l.length->Zx (λv=>Zbc l x X d v.1) (((p+r:Nat):Int),())=some ((p:Int),(1:Int),(0:Int)):=by
    intro r;induction r with
    |zero =>
     intro F;refine Xi ?_;simp only[N,Kd,show(0:Int)<=(p:Int)from by omega,Ui,Zo];rw[e,Bq,Uc rfl]
    |succ r I =>
     intro F;have A:l[p+(r+1)]?=some (l[p+(r+1)]'F):=Ua _;generalize l[p+(r+1)]'F=y at A;have D:=ZlI o (show p<p+(r+1) by omega) e A;refine(Xk ?_).trans (I (by omega));simp only[N,show(0:Int)<=((p+(r+1):Nat):Int)from by omega,Ui,Zo,A,Bq];rw[QQ,QQ,QR,show((p+(r+1):Nat):Int)-1=((p+r:Nat):Int) by omega]
   have:=k (l.length-1-p) (by omega);rw[show p+(l.length-1-p)=l.length-1 by omega]at this;rw[QR,show(l.length:Int)-1=((l.length-1:Nat):Int) by omega];exact this
  ·rw[Uc (UQ (show l[p]?=some c from e))]
   rfl
 ·obtain⟨B,H,J,Q⟩:=e
  have W:=(Ub.1 H).1;have g:=K.btw o ⟨B,H,J,Q⟩;subst g;have M:=bd B;have O:=bd H;have E:¬l[j+1]?=some c:=λq=>by rw[H]at q;injection q with q;omega
  refine⟨(j:Int),z-c,c-y,⟨by omega,by omega,λq=>by omega,by omega,by omega,by omega⟩,?_,?_⟩
  ·have k:∀(r:Nat),j+r<l.length->Zx (λv=>Zbc l x X d v.1) (((j+r:Nat):Int),())=some ((j:Int),z-c,c-y):=by
    intro r;induction r with
    |zero =>
     intro F;refine Xi ?_;simp only[N,Kd,show(0:Int)<=(j:Int)from by omega,Ui,Zo];rw[B,Bq,QQ,Uc J,YW (show j<=1048576 by omega),Zo,H,Bq,QR,QR]
    |succ r I =>
     intro F;have s:l[j+(r+1)]?=some (l[j+(r+1)]'F):=Ua _;generalize l[j+(r+1)]'F=w at s;have D:z<=w:=by
      by_cases q:r=0
      ·subst q;rw[H]at s;injection s with s;omega
      ·have:=ZlI o (show j+1<j+(r+1) by omega) H s;omega
     refine(Xk ?_).trans (I (by omega));simp only[N,show(0:Int)<=((j+(r+1):Nat):Int)from by omega,Ui,Zo,s,Bq];rw[QQ,QQ,QR,show((j+(r+1):Nat):Int)-1=((j+r:Nat):Int) by omega]
   have:=k (l.length-1-j) (by omega);rw[show j+(l.length-1-j)=l.length-1 by omega]at this;rw[QR,show(l.length:Int)-1=((l.length-1:Nat):Int) by omega];exact this
  ·rw[Ue (by rw[Ul];exact E),Zo,H,Bq,QR (n:=((j+1:Nat):Int)-1),show((j+1:Nat):Int)-1=(j:Int) by omega,Zo,B,Bq,QR,QR,QR]
   unfold wl;rw[QQ];simp only[Option.some.injEq,Prod.mk.injEq];refine⟨?_,by omega⟩;rw[show((j+1:Nat):Int)=(j:Int)+1 by omega]
theorem Zjd (a b m:Int):Zda a b m=Yq a b m:=by
 unfold Zda Yq;by_cases h:b≠0
 ·rw[Zi h,Zi h]
  by_cases d:Int.tmod a b<0
  ·have f:¬(0:Int)<Int.tmod a b:=by omega
   by_cases M:m=0
   ·subst M;simp only[d,Ui]
   ·by_cases c:m=1
    ·subst c;simp[d,f]
    ·simp only[d,f,M,c,Ui,Uh]
  ·by_cases f:(0:Int)<Int.tmod a b
   ·by_cases M:m=0
    ·subst M;simp[d,f]
    ·by_cases c:m=1
     ·subst c;simp[d,f]
     ·simp only[d,f,M,c,Ui,Uh]
   ·by_cases M:m=0
    ·subst M;simp[d,f]
    ·by_cases c:m=1
     ·subst c;simp[d,f]
     ·simp only[d,f,M,c,Ui,Uh]
 ·simp only[Zt,Ue h]
theorem Zsi {b m:Int} (g:0<b) (k:-4000000000000000000<=a) (j:a<=4000000000000000000) (R:m=0\/m=1):∃r,Yq a b m=some r/\∀M:Int,0<=M->M*b<=4000000000000000000->(a<=M*b->r<=M)/\(-(M*b)<=a->-M<=r)/\(0<=a->0<=r):=by
 have e:=Int.mul_tdiv_add_tmod a b;have l:=Kq a g;have p:=Int.lt_tmod_of_pos a g;have up:∀M:Int,a<=M*b->Int.tdiv a b<=M/\(0<Int.tmod a b->Int.tdiv a b+1<=M):=λM h=>by
  constructor
  ·refine UT λq=>?_
   have:=KK (show M+1<=Int.tdiv a b by omega) (show 0<=b by omega);rw[Int.mul_add,Int.mul_one,Int.mul_comm b M]at this;omega
  ·intro f
   refine UT λq=>?_;have:=KK (show M<=Int.tdiv a b by omega) (show 0<=b by omega);rw[Int.mul_comm b M]at this;omega
 have o:∀M:Int,-(M*b)<=a->-M<=Int.tdiv a b/\(Int.tmod a b<0->-M<=Int.tdiv a b-1):=λM h=>by
  constructor
  ·refine UT λq=>?_
   have:=KK (show Int.tdiv a b<=-(M+1) by omega) (show 0<=b by omega);rw[Int.mul_neg,Int.mul_add,Int.mul_one,Int.mul_comm b M]at this;omega
  ·intro f
   refine UT λq=>?_;have:=KK (show Int.tdiv a b<=-M by omega) (show 0<=b by omega);rw[Int.mul_neg,Int.mul_comm b M]at this;omega
 have B:Int.tdiv a b<=4000000000000000000/\-4000000000000000000<=Int.tdiv a b:=by
  have d:(4000000000000000000:Int)<=4000000000000000000*b:=by omega
  have:=up 4000000000000000000 (by omega);have:=o 4000000000000000000 (by omega);omega
 have N:0<=a->0<=Int.tdiv a b/\¬Int.tmod a b<0:=λh=>by
  have:=Ky b h;have:=Int.tdiv_nonneg h (show 0<=b by omega);omega
 unfold Yq;rw[Ra,QR (n:=Int.tdiv a b)];by_cases d:Int.tmod a b<0
 ·rw[Uc d]
  by_cases i:m=0
  ·rw[Uc i,QR]
   refine⟨_,rfl,λM H F=>⟨λh=>?_,λh=>?_,λh=>absurd d (N h).2⟩⟩
   ·have:=(up M h).1;omega
   ·exact(o M h).2 d
  ·rw[Ue i,Ue (show ¬(0:Int)<Int.tmod a b by omega)]
   exact⟨_,rfl,λM H F=>⟨λh=>(up M h).1,λh=>(o M h).1,λh=>(N h).1⟩⟩
 ·rw[Ue d]
  by_cases f:(0:Int)<Int.tmod a b
  ·rw[Uc f]
   by_cases c:m=1
   ·rw[Uc c,QR]
    refine⟨_,rfl,λM H F=>⟨λh=>(up M h).2 f,λh=>?_,λh=>?_⟩⟩
    ·have:=(o M h).1;omega
    ·have:=(N h).1;omega
   ·rw[Ue c]
    exact⟨_,rfl,λM H F=>⟨λh=>(up M h).1,λh=>(o M h).1,λh=>(N h).1⟩⟩
  ·rw[Ue f]
   exact⟨_,rfl,λM H F=>⟨λh=>(up M h).1,λh=>(o M h).1,λh=>(N h).1⟩⟩
def ZmZ (t:ZB) (i k:Int):Int:=(atI (Gr t) (i*((Gt t).length:Int)+k)).getD 0
def tm (t:ZB) (i k a c:Int):Int:=if 0<a*c then ZmZ t i k*(a*c)else 0
variable {k:Int}
theorem Zte (h:JW t) (I:0<=i) (j:i<(GO t).length) (K:0<=k) (m:k<(Gt t).length) :
  atI (Gr t) (i*((Gt t).length:Int)+k)=some (ZmZ t i k)/\(-1000000<=ZmZ t i k/\ZmZ t i k<=1000000)/\0<=i*((Gt t).length:Int)/\i*((Gt t).length:Int)<=16:=by
 obtain⟨d,f,g,c⟩:=h;have b:=Zg0 I (show i<=4 by have:=d.2.1;omega) (show(0:Int)<=((Gt t).length:Int) by omega) (show((Gt t).length:Int)<=4 by have:=f.2.1;omega);have H:i*((Gt t).length:Int)+k<(Gr t).length:=by
  have e:=Int.mul_le_mul_of_nonneg_right (show i+1<=((GO t).length:Int) by omega) (show(0:Int)<=((Gt t).length:Int) by omega);rw[Int.add_mul,Int.one_mul]at e;rw[g,Int.natCast_mul];omega
 obtain⟨x,a,J⟩:=Zrt (l:=Gr t) (i:=i*((Gt t).length:Int)+k) (by omega) H;have R:=c x (Ud J);have e:ZmZ t i k=x:=by unfold ZmZ;rw[a];rfl
 rw[e];exact⟨a,R,by omega,by omega⟩
theorem ZqN (h:JW t) (l:0<a->0<=i/\i<(GO t).length) (b:0<c->0<=k/\k<(Gt t).length) (a0:0<=a:=by omega) (c0:0<=c:=by omega):-(1000000*(a*c))<=tm t i k a c/\tm t i k a c<=1000000*(a*c):=by
 unfold tm;by_cases q:0<a*c
 ·rw[Uc q]
  have n:0<a:=by
   refine UT λz=>?_;rw[show a=0 by omega,Int.zero_mul]at q;omega
  have H:0<c:=by
   refine UT λz=>?_;rw[show c=0 by omega,Int.mul_zero]at q;omega
  obtain⟨_,⟨U,W⟩,_⟩:=Zte h (l n).1 (l n).2 (b H).1 (b H).2;exact Zqf U W
 ·rw[Ue q]
  have:=Int.mul_nonneg a0 c0;omega
theorem ZE3:tm t i k a 0=0:=by unfold tm;rw[Int.mul_zero,QQ]
theorem Zw7:tm t i k 0 c=0:=by unfold tm;rw[Int.zero_mul,QQ]
def ZqQ (t:ZB) (j a b k c d:Int):Int:=tm t j k a c+tm t j (k+1) a d+(tm t (j+1) k b c+tm t (j+1) (k+1) b d)
variable {w:List ZcJ×Int} {v1:Int}
theorem ZpZ (h:JW t) {v3:Int} (I:0<=i) (j:i<(GO t).length) (A0:0<A) (A1:A<=100000) (H:atI w.1 v3=some (k,c,())) (a:v3<w.1.length) (m:v3<=10) (D:0<=v3) (K:0<=k) (d:k<(Gt t).length) (c0:0<c:=by omega) (c1:c<=100000:=by omega) (b:-100000000000000000<=s:=by omega) (f:s<=100000000000000000:=by omega) :
  Qk t w v1 (i,A,()) s v3=some (.inl (s+tm t i k A c,v3+1,())):=by
 obtain⟨l,⟨U,W⟩,X,Y⟩:=Zte h I j K d;have S:=h.2.1.2.1;have p:=Zg0 (show 0<=A by omega) A1 (show 0<=c by omega) c1;have P:0<A*c:=Int.mul_pos A0 c0;have q:=Zqf U W (show 0<=A*c by omega);have Q:=Zqf U W (show 0<=A by omega);have e:tm t i k A c=ZmZ t i k*(A*c):=by unfold tm;rw[Uc P]
 simp only[Qk,Uc a,H,Bq];show(atI (Gr t) (Wq (Wq (i*((Gt t).length:Int))+k))).bind _=_;rw[QR (n:=i*((Gt t).length:Int)),QR (n:=i*((Gt t).length:Int)+k),l,Bq];show some (Sum.inl (Wq (s+Wq (Wq (ZmZ t i k*A)*c)),Wq (v3+1),()))=_;rw[QR (n:=ZmZ t i k*A),Int.mul_assoc,QR (n:=ZmZ t i k*(A*c)),QR (n:=s+ZmZ t i k*(A*c)),QR (n:=v3+1),e]
theorem Zwr {v3:Int} {x:ZcJ} (a:v3=w.1.length):Qk t w v1 x s v3=some (.inr (.inl (s,Wq (v1+1),()))):=by
 simp only[Qk,Ue (show ¬v3<(w.1.length:Int) by omega)]
theorem Zws (h:JW t) {d:Int} (H:w.1=wl k c d) (e:ZGC (Gt t) k c d) (I:0<=i) (j:i<(GO t).length) (A0:0<A:=by omega) (A1:A<=100000:=by omega) (S:-50000000000000000<=s:=by omega) (m:s<=50000000000000000:=by omega) :
  Zx (λv=>Qk t w v1 (i,A,()) v.1 v.2.1) (s,(0:Int),())=some (.inl (s+(tm t i k A c+tm t i (k+1) A d),Wq (v1+1),())):=by
 have g:=e.ab;have L:=e.a0;have l:=e.b0;have b:=e.j0;have W:=e.jl;have p:=Zg0 (show 0<=A by omega) A1 (show 0<=c by omega) (show c<=100000 by omega);have q:=ZqN h (i:=i) (k:=k) (a:=A) (c:=c) (λ_=>⟨I,j⟩) (λ_=>⟨b,W⟩);unfold wl at H;by_cases N:d=0
 ·rw[Uc N]at H
  subst N;refine(Xk (v':=(s+tm t i k A c,(1:Int),())) ?_).trans (Xi ?_)
  ·exact ZpZ (s:=s) (v3:=0) h I j A0 A1 (by rw[H];rfl) (by rw[H];show(0:Int)<((1:Nat):Int);omega) (by omega) (by omega) b W L
  ·rw[ZE3,KW]
   exact Zwr (by rw[H];rfl)
 ·rw[Ue N]at H
  have f:=e.jb (by omega);refine(Xk (v':=(s+tm t i k A c,(1:Int),())) ?_).trans ((Xk (v':=(s+tm t i k A c+tm t i (k+1) A d,(2:Int),())) ?_).trans (Xi ?_))
  ·exact ZpZ (s:=s) (v3:=0) h I j A0 A1 (by rw[H];rfl) (by rw[H];show(0:Int)<((2:Nat):Int);omega) (by omega) (by omega) b W L
  ·exact ZpZ (s:=s+tm t i k A c) (v3:=1) h I j A0 A1 (by rw[H];rfl) (by rw[H];show(1:Int)<((2:Nat):Int);omega) (by omega) (by omega) (by omega) f
  ·rw[<-Int.add_assoc]
   exact Zwr (by rw[H];rfl)
theorem Zup (h:JW t) {j:Int} {v3 W1:Int} (g:v1=0\/v1=1) (l:v3=0\/v3=1) (m:0<=j) (H:0<a->j+v1<(GO t).length) (f:j<=4) (o:0<=k) (e:0<c->k+v3<(Gt t).length) (a0:0<=a) (A:a<=100000) (c0:0<=c:=by omega) (c1:c<=100000:=by omega) (r:-100000000000000000<=s:=by omega) (u:s<=100000000000000000:=by omega) :
  (if (0:Int)<Wq (a*c) then
     (atI (Gr t) (Wq (Wq (Wq (Wq (j+v1)*(↑(List.length (Gt t)):Int))+k)+v3))).bind λX =>
     some (Sum.inl (Wq (s+Wq (Wq (a*c)*X)),Wq (v3+(1:Int)),()))
    else
     some (.inl (s,Wq (v3+(1:Int)),())):Option ((Int×Int×Unit) ⊕ ((Int×Int×Unit) ⊕ Int)))=some (.inl (s+tm t (j+v1) (k+v3) a c,v3+1,())):=by
 have p:=Zg0 a0 A c0 c1;rw[QR (n:=a*c),QR (n:=v3+1)];by_cases P:0<a*c
 ·have d:0<a:=by
   refine UT λz=>?_;rw[show a=0 by omega,Int.zero_mul]at P;omega
  have b:0<c:=by
   refine UT λz=>?_;rw[show c=0 by omega,Int.mul_zero]at P;omega
  obtain⟨x,⟨U,W⟩,B,Y⟩:=Zte h (i:=j+v1) (k:=k+v3) (by omega) (H d) (by omega) (e b);have S:=h.2.1.2.1;have K:=e b;have q:=Zqf U W (show 0<=a*c by omega);rw[Uc P,QR (n:=j+v1),QR (n:=(j+v1)*((Gt t).length:Int)),QR (n:=(j+v1)*((Gt t).length:Int)+k),Int.add_assoc,QR (n:=(j+v1)*((Gt t).length:Int)+(k+v3)),x,Bq];unfold tm;rw[Uc P,Int.mul_comm (a*c),QR (n:=ZmZ t (j+v1) (k+v3)*(a*c)),QR]
 ·rw[Ue P]
  unfold tm;rw[Ue P,KW]
theorem Zpl (h:JW t) {j b d:Int} (H:ZGC (GO t) j a b) (f:ZGC (Gt t) k c d) (l:v1=0/\A=a\/v1=1/\A=b) (C:-50000000000000000<=s:=by omega) (D:s<=50000000000000000:=by omega) :
  Zx (λv=>QJ t (j,a,b) (k,c,d) v1 v.1 v.2.1) (s,(0:Int),())=some (.inl (s+(tm t (j+v1) k A c+tm t (j+v1) (k+1) A d),Wq (v1+1),())):=by
 have r:=H.ab;have u:=H.a0;have w:=H.b0;have J:=H.j0;have x:=H.jl;have n:=H.jb;have y:=f.ab;have B:=f.a0;have R:=f.b0;have m:=f.j0;have o:=f.jl;have K:=f.jb;have S:=h.1.2.1;have A0:0<=A/\A<=100000/\(0<A->j+v1<(GO t).length)/\0<=j+v1:=by
  rcases l with⟨rfl,rfl⟩|⟨rfl,rfl⟩
  ·exact⟨by omega,by omega,λ_=>by omega,by omega⟩
  ·exact⟨by omega,by omega,λq=>n q,by omega⟩
 obtain⟨A1,A2,A3,A4⟩:=A0;have p:=Zg0 A1 A2 (show 0<=c by omega) (show c<=100000 by omega);have q:=ZqN h (i:=j+v1) (k:=k) (a:=A) (c:=c) (λz=>⟨A4,A3 z⟩) (λ_=>⟨m,o⟩) A1;have P:=Zg0 A1 A2 (show 0<=d by omega) (show d<=100000 by omega);have Q:=ZqN h (i:=j+v1) (k:=k+1) (a:=A) (c:=d) (λz=>⟨A4,A3 z⟩) (λz=>⟨by omega,K z⟩) A1;have g:v1=0\/v1=1:=by omega
 refine(Xk (v':=(s+tm t (j+v1) (k+0) A c,0+1,())) ?_).trans ((Xk (v':=(s+tm t (j+v1) (k+0) A c+tm t (j+v1) (k+1) A d,1+1,())) ?_).trans (Xi ?_))
 ·have e:=Zup h (v1:=v1) (v3:=0) (s:=s) (W1:=0) (a:=A) (c:=c) g (.inl rfl) J A3 (by omega) m (λ_=>by omega) A1 A2
  show QJ t (j,a,b) (k,c,d) v1 s 0=_;unfold QJ;rw[Uc (by decide)];rcases l with⟨rfl,rfl⟩|⟨rfl,rfl⟩
  ·rw[Ue (by decide),Uc rfl];exact e
  ·rw[Uc rfl,Uc rfl];exact e
 ·rw[KW]
  have e:=Zup h (v1:=v1) (v3:=1) (s:=s+tm t (j+v1) k A c) (W1:=0) (a:=A) (c:=d) g (.inr rfl) J A3 (by omega) m (λz=>K z) A1 A2;show QJ t (j,a,b) (k,c,d) v1 (s+tm t (j+v1) k A c) 1=_;unfold QJ;rw[Uc (by decide)];rcases l with⟨rfl,rfl⟩|⟨rfl,rfl⟩
  ·rw[Ue (by decide),Ue (by decide)];exact e
  ·rw[Uc rfl,Ue (by decide)];exact e
 ·rw[KW]
  show QJ t (j,a,b) (k,c,d) v1 (s+tm t (j+v1) k A c+tm t (j+v1) (k+1) A d) 2=_;unfold QJ;rw[Ue (by decide),Int.add_assoc]
theorem look_eq (h:JW t) (s l:Int) {m:Int} (G:m=0\/m=1):∃r,ZbN t s l m=some r/\Q9 t s l m=some r/\-1000000<=r/\r<=1000000:=by
 obtain⟨j,a,b,f,E,y⟩:=ZkS h.1 s;obtain⟨k,c,d,H,B,C⟩:=ZkS h.2.1 l;have O:=f.ab;have u:=f.a0;have P:=f.b0;have J:=f.j0;have x:=f.jl;have o:=f.jb;have Q:=H.ab;have L:=H.a0;have S:=H.b0;have K:=H.j0;have q:=H.jl;have v:=H.jb;have p1:=Zg0 (show 0<=a by omega) (show a<=100000 by omega) (show 0<=c by omega) (show c<=100000 by omega);have U:=Zg0 (show 0<=a by omega) (show a<=100000 by omega) (show 0<=d by omega) (show d<=100000 by omega);have V:=Zg0 (show 0<=b by omega) (show b<=100000 by omega) (show 0<=c by omega) (show c<=100000 by omega);have W:=Zg0 (show 0<=b by omega) (show b<=100000 by omega) (show 0<=d by omega) (show d<=100000 by omega);have X:=Int.mul_pos u L;have Y:=ZqN h (i:=j) (k:=k) (a:=a) (c:=c) (λ_=>⟨J,x⟩) (λ_=>⟨K,q⟩);have Z:=ZqN h (i:=j) (k:=k+1) (a:=a) (c:=d) (λ_=>⟨J,x⟩) (λz=>⟨by omega,v z⟩);have q3:=ZqN h (i:=j+1) (k:=k) (a:=b) (c:=c) (λz=>⟨by omega,o z⟩) (λ_=>⟨K,q⟩);have q4:=ZqN h (i:=j+1) (k:=k+1) (a:=b) (c:=d) (λz=>⟨by omega,o z⟩) (λz=>⟨by omega,v z⟩);have N:(a+b)*(c+d)=a*c+a*d+(b*c+b*d):=by rw[Int.add_mul,Int.mul_add,Int.mul_add]
 obtain⟨r,F,D⟩:=Zsi (a:=ZqQ t j a b k c d) (b:=(a+b)*(c+d)) (m:=m) (by omega) (by unfold ZqQ;omega) (by unfold ZqQ;omega) G;have g:=D 1000000 (by omega) (by omega);refine⟨r,?_,?_,g.2.1 (by unfold ZqQ;omega),g.1 (by unfold ZqQ;omega)⟩
 ·have M:∀v1:Int,v1=(wl j a b).length->Y5 t m (wl j a b,a+b) (wl k c d,c+d) (ZqQ t j a b k c d) v1=some (.inr r):=λv1 I=>by
   simp only[Y5,I,Uf,Uh];rw[QR (n:=(a+b)*(c+d)),Zjd,F,Bq]
  unfold ZbN;rw[y,C,Bq,Bq];have R:=Zws h (w:=(wl k c d,c+d)) (v1:=0) (i:=j) (A:=a) (s:=0) rfl H J x u;by_cases T:b=0
  ·have e:wl j a b=[(j,a,())]:=by unfold wl;rw[Uc T]
   refine(Xk (v':=(ZqQ t j a b k c d,(1:Int),())) ?_).trans (Xi (M 1 (by rw[e];rfl)));show Y5 t m (wl j a b,a+b) (wl k c d,c+d) 0 0=_;unfold Y5;rw[Uc (by rw[e];show(0:Int)<((1:Nat):Int);omega),show atI (wl j a b,a+b).fst (0:Int)=some (j,a,()) by rw[e];rfl,Bq];refine R.trans ?_;unfold ZqQ;rw[T,Zw7,Zw7,KW,KW,Int.zero_add];rfl
  ·have e:wl j a b=[(j,a,()),(j+1,b,())]:=by unfold wl;rw[Ue T]
   have p:=Zws h (w:=(wl k c d,c+d)) (v1:=1) (i:=j+1) (A:=b) (s:=tm t j k a c+tm t j (k+1) a d) rfl H (by omega) (o (by omega));refine(Xk (v':=(tm t j k a c+tm t j (k+1) a d,(1:Int),())) ?_).trans ((Xk (v':=(ZqQ t j a b k c d,(2:Int),())) ?_).trans (Xi (M 2 (by rw[e];rfl))))
   ·show Y5 t m (wl j a b,a+b) (wl k c d,c+d) 0 0=_
    unfold Y5;rw[Uc (by rw[e];show(0:Int)<((2:Nat):Int);omega),show atI (wl j a b,a+b).fst (0:Int)=some (j,a,()) by rw[e];rfl,Bq];refine R.trans ?_;rw[Int.zero_add];rfl
   ·show Y5 t m (wl j a b,a+b) (wl k c d,c+d) (tm t j k a c+tm t j (k+1) a d) 1=_
    unfold Y5;rw[Uc (by rw[e];show(1:Int)<((2:Nat):Int);omega),show atI (wl j a b,a+b).fst (1:Int)=some (j+1,b,()) by rw[e];rfl,Bq];exact p
 ·unfold Q9
  rw[E,B,Bq,Bq];have R:=Zpl h f H (v1:=0) (s:=0) (A:=a) (.inl ⟨rfl,rfl⟩);have p:=Zpl h f H (v1:=1) (s:=tm t j k a c+tm t j (k+1) a d) (A:=b) (.inr ⟨rfl,rfl⟩);refine(Xk (v':=(tm t j k a c+tm t j (k+1) a d,(1:Int),())) ?_).trans ((Xk (v':=(ZqQ t j a b k c d,(2:Int),())) ?_).trans (Xi ?_))
  ·show YO t m (j,a,b) (k,c,d) 0 0=_
   unfold YO;rw[Uc (by decide)];refine R.trans ?_;rw[KW,Int.zero_add];rfl
  ·show YO t m (j,a,b) (k,c,d) (tm t j k a c+tm t j (k+1) a d) 1=_
   unfold YO;rw[Uc (by decide)];exact p
  ·show YO t m (j,a,b) (k,c,d) (ZqQ t j a b k c d) 2=_
   unfold YO;rw[Ue (by decide)];show(Yq (ZqQ t j a b k c d) (Wq (Wq (a+b)*Wq (c+d))) m).bind _=_;rw[QR (n:=a+b),QR (n:=c+d),QR (n:=(a+b)*(c+d)),F];rfl
def sdl (w:Zq) (ld:List Int) (y:Int):Int:=(atI (ndl w ld) y).getD 0
variable {k:Nat} {w:Zq}
theorem ZuM.sink (h:ZuM b k w ld) (i:y∈Gm w):atI (ndl w ld) y=some (sdl w ld y)/\0<=sdl w ld y/\sdl w ld y<=301000000:=by
 have q:=h.snk y i;obtain⟨x,d,f⟩:=ZgM (l:=ndl w ld) q.1 (by rw[h.len];omega);have H:=h.bd x f;have e:sdl w ld y=x:=by unfold sdl;rw[d];rfl
 grind
theorem Zq1 (h:ZuM b k w ld):XZ b (k:Int)=some ((Gm w).map (sdl w ld)):=by
 unfold XZ;rw[Zva h,Bq,Zo,h.wire,Bq];have f:=h.few;refine ZwG (l:=Gm w) (by unfold Len;omega) (λo i=>(o,i,())) (g:=sdl w ld) (s0:=[]) (λm y H s a=>?_) ?_
 ·have R:=(Ub.1 H).1
  have q:s.length<=1048576:=by grind
  simp only[X6,show(m:Int)<((Gm w).length:Int)from by omega,Ui,Zo,H,(h.sink (Ud H)).1,Bq];rw[Zi (by grind)]
 ·simp only[X6,Uf,Uh,Uv]
theorem Zs2 (h:ZuM b k w ld) {e:Int} (R:e=0\/e=1):∃f:Int->Int,(∀y∈Gm w,Yq (sdl w ld y) 1000 e=some (f y)/\0<=f y/\f y<=301000)/\Vx b (k:Int) e=some ((Gm w).map f):=by
 have d:=h.few;have K:∀y∈Gm w,Yq (sdl w ld y) 1000 e=some ((Yq (sdl w ld y) 1000 e).getD 0)/\0<=(Yq (sdl w ld y) 1000 e).getD 0/\(Yq (sdl w ld y) 1000 e).getD 0<=301000:=λy H=>by
  have q:=(h.sink H).2;obtain⟨r,F,c⟩:=Zsi (a:=sdl w ld y) (b:=1000) (m:=e) (by omega) (by omega) (by omega) R;have:=c 301000 (by omega) (by omega);grind
 refine⟨λy=>(Yq (sdl w ld y) 1000 e).getD 0,K,?_⟩;unfold Vx;rw[ZlV h,Bq];refine ZwG (l:=Gm w) (by unfold Len;omega) (λo i=>(o,i,())) (g:=λy=>(Yq (sdl w ld y) 1000 e).getD 0) (s0:=[]) (λm y H s q=>?_) ?_
 ·have R:=(Ub.1 H).1
  have j:s.length<=1048576:=by grind
  simp only[X9,Zo,h.wire,show(m:Int)<((Gm w).length:Int)from by omega,Ui,H,(h.sink (Ud H)).1,Bq];rw[(K y (Ud H)).1,Bq,Zi (by grind)];rfl
 ·simp only[X9,Zo,h.wire,Bq,Uf,Uh,Uv]
variable {l:List α}
theorem Zok {x:α} (h:l[k]?=some x) (g:p x=true) (f:∀(j:Nat) (y:α),j<k->l[j]?=some y->p y=false):Zao p l=(k:Int):=by
 have H:=(Ub.1 h);have:l.findIdx? p=some k:=by
  rw[Ko];refine⟨H.1,by rw[H.2];exact g,λj b=>?_⟩;have:=f j (l[j]'(by have:=H.1;omega)) b (Ua _);simp[this]
 unfold Zao;rw[this]
theorem Zn3 (d:Zb) (n:Int) (h:Few d):Zeb d n=some (Zao (λx:Pl=>decide (x.2.2.1=n)&&x.2.2.2.1) (places d)):=by
 have H:=ZT h;unfold Zeb;rw[ZN d h,Bq];refine QN (out:=λi=>i) (show Len (places d) by show List.length _<=_;omega) (λk x l=>?_) ?_
 ·have a:=(Ub.1 l).1
  simp only[ZdY,show(k:Int)<((places d).length:Int)from by omega,Ui,Zo,l,Bq,Ur,Ul];split
  ·rename_i E
   split
   ·rename_i e;rw[Uc ⟨E,e⟩]
   ·rename_i e;rw[Ue (λq=>e q.2)]
  ·rename_i E;rw[Ue (λq=>E q.1)]
 ·simp only[ZdY,Uf,Uh]
variable {i:Nat} {a:Zr}
theorem Zu3 {x:Ze} (s:Zts a) (h:ZjI a d x) (V:(K7 x).length<=1048576):((YR i x).filter (λy=>y.2.2.2.1)).map (λy=>y.2.2.1)=[Qo x]:=by
 obtain⟨_,⟨c,p,t⟩,_⟩:=h;have u:2<=(K5 c).length:=(s.2.1 c (Ud p)).2.1.1;unfold YR Qo;rw[Zk9 V];generalize o:K7 x=l;rw[o]at t;have b:l.length≠0:=by omega
 have g:∀(l:List Int) (m n:Nat),m+l.length=n+1->l.length≠0->((cat (λj N=>[((i:Int),(j:Int),N,decide ((j:Int)=(n:Int)),())]) m l).filter (λy:Pl=>y.2.2.2.1)).map (λy=>y.2.2.1)=[l.getLastD 0]:=by
  intro l;induction l with
  |nil=>intro m n _ k;simp at k
  |cons y r I =>
   intro m n R _;by_cases F:r=[]
   ·subst F
    simp only[Um,Uq]at R;have:(m:Int)=(n:Int):=by omega
    simp[cat,this]
   ·have f:r.length≠0:=λe=>F (UG e)
    simp only[Um]at R;have H:¬(m:Int)=(n:Int):=by omega
    have:=I (m+1) n (by omega) f;simp only[cat,U4,Uv];rw[List.filter_cons_of_neg (by simp[H]),this];cases r with
    |nil=>exact absurd rfl F
    |cons z q=>simp[List.getLastD_cons]
 exact g l 0 (l.length-1) (by omega) b
theorem Zu4 (j:Nat) (p:Z8):((ZbQ j p).filter (λy=>y.2.2.2.1)).map (λy=>y.2.2.1)=if GC p=1 then[GH p]else[]:=by
 unfold ZbQ;by_cases h:GC p=1
 ·simp[h]
 ·simp[h]
theorem Zxn (h:Qj a d) (V:sm Y8 d):((places d).filter (λy=>y.2.2.2.1)).map (λy=>y.2.2.1)=ZoE d:=by
 unfold places ZoE;rw[Kh,U8];congr 1
 ·have:∀(l:List Ze) (m:Nat),(∀x∈l,ZjI a d x/\(K7 x).length<=1048576)->((cat YR m l).filter (λy=>y.2.2.2.1)).map (λy=>y.2.2.1)=l.map Qo:=by
   intro l;induction l with
   |nil=>intro m _;rfl
   |cons x r i =>
    intro m q;have H:=q x (by simp);simp only[cat,Kh,U8,List.map_cons];rw[Zu3 h.1 H.1 H.2,i (m+1) (λy b=>q y (by simp[b]))];rfl
  exact this _ 0 (λx H=>⟨h.2.2.1 x H,Zw (Zlr (Zuo (Zck V).1 H)).2⟩)
 ·have:∀(l:List Z8) (m:Nat),((cat ZbQ m l).filter (λy=>y.2.2.2.1)).map (λy=>y.2.2.1)=(l.filter (λp=>decide (GC p=1))).map GH:=by
   intro l;induction l with
   |nil=>intro m;rfl
   |cons p r i =>
    intro m;simp only[cat,Kh,U8];rw[Zu4,i (m+1)];by_cases N:GC p=1
    ·simp[N]
    ·simp[N]
  exact this _ 0
theorem Zrv {a b:α} (Z:i<j) (n:l[i]?=some a) (h:l[j]?=some b) (P:p a=true) (c:p b=true):2<=l.countP p:=by
 have e:l.countP p=(l.take j).countP p+(l.drop j).countP p:=by rw[<-Kp,KG]
 have d:0<(l.take j).countP p:=KM.2 ⟨a,UA.2 ⟨i,by rw[UC,Uc Z];exact n⟩,P⟩;have f:0<(l.drop j).countP p:=KM.2 ⟨b,UA.2 ⟨0,by rw[Kz];exact h⟩,c⟩;omega
def ZuJ (n:Int) (x:Pl):Bool:=decide (x.2.2.1=n)&&x.2.2.2.1
def ZhW (d:Zb) (n:Int):Int:=Zao (ZuJ n) (places d)
theorem ZyY (h:Qj a d) (V:sm Y8 d) (b:v<(K1 d).length):(places d).countP (ZuJ (v:Int))=1:=by
 have H:=h.2.2.2.2 _ (Ud (Zja (s:=ZoE d) b));rw[<-Zxn h V,List.countP_map,List.countP_filter]at H;have e:(places d).countP (ZuJ (v:Int))=(places d).countP (λy=>((λx=>decide (x=(v:Int)))∘λy:Pl=>y.2.2.1) y&&y.2.2.2.1):=rfl;rw[e];omega
theorem ZpF (h:Qj a d) (V:sm Y8 d) (e:v<(K1 d).length:=by omega) :
  ∃(q:Nat) (y:Pl),(places d)[q]?=some y/\ZuJ (v:Int) y=true/\ZhW d (v:Int)=(q:Int)/\∀(p:Nat) (z:Pl),(places d)[p]?=some z->ZuJ (v:Int) z=true->p=q:=by
 have f:=ZyY h V e;obtain⟨y,i,g⟩:=KM.1 (show 0<(places d).countP (ZuJ (v:Int)) by omega);obtain⟨q,b⟩:=UA.1 i;have u:∀(p:Nat) (z:Pl),(places d)[p]?=some z->ZuJ (v:Int) z=true->p=q:=by
  intro p z T H;rcases KJ p q with t|m|t
  ·have:=Zrv t T b H g;omega
  ·exact m
  ·have:=Zrv t b T g H;omega
 refine⟨q,y,b,g,Zok b g (λj z k T=>?_),u⟩;cases c:ZuJ (v:Int) z
 ·rfl
 ·have:=u j z T c;omega
end Go.Proofs.YtcjminfjgckdlaaGreatDoor
