/-
  Ground of the plain laws: loops by what they come to; small arithmetic.
-/
import Derived.Test.YtmihfdfjccociaaGreatDoorE1
import Derived.IntWalk
import Derived.Test.YtmihfdfjccociaaGreatDoorM
namespace Go.Proofs.YtmihfdfjccociaaGreatDoor
set_option linter.unusedVariables false
set_option linter.unusedSimpArgs false
open Go Go.Sx
theorem Xa {n:Int} (h1:-9223372036854775808<=n) (h2:n<=9223372036854775807):Wq n=n:=IntWalk.i64_in n ⟨h1,h2⟩
theorem Zy {α:Type} (l:List α) (k:Nat):atI l (k:Int)=l[k]?:=by simp[atI]
theorem Za5 {α:Type} {l:List α} {i:Int} {x:α} (h0:0<=i) (hx:l[i.toNat]?=some x):atI l i=some x:=by simp[atI,h0,hx]
theorem Zic {α:Type} {l:List α} {i:Int} (h0:0<=i) (h1:i<l.length):∃ x,atI l i=some x/\l[i.toNat]?=some x :=
 ⟨l[i.toNat]'(by omega),by simp[atI,h0],Ub _⟩
theorem Zt {α:Type} {p:Prop} (h:p) (a:Option α):Zp p a=a:=by
 unfold Zp;exact Uf h
theorem Za0 {τ ρ:Type} {step:τ->Option (τ ⊕ ρ)} (n:Nat) (I:Nat->τ->Prop) (Q:ρ->Prop) {v:τ} (h0:I 0 v)
  (hs:∀ k v,k<n->I k v->(∃ v',step v=some (.inl v')/\I (k+1) v')\/∃ r,step v=some (.inr r)/\Q r)
  (hx:∀ v,I n v->∃ r,step v=some (.inr r)/\Q r):∃ r,Zr step v=some r/\Q r:=by
 have:∀ m k v,k+m=n->I k v->∃ r,Zr step v=some r/\Q r:=by
  intro m;induction m with
  | zero =>
   intro k v hk hI;have:k=n:=by omega
   subst this;obtain ⟨r,e,hq⟩:=hx v hI;exact ⟨r,Zd9 e,hq⟩
  | succ m ih =>
   intro k v hk hI;rcases hs k v (by omega) hI with ⟨v',e,hI'⟩ | ⟨r,e,hq⟩
   ·obtain ⟨r,h1,h2⟩:=ih (k+1) v' (by omega) hI'
    exact ⟨r,by rw[Zhr e];exact h1,h2⟩
   ·exact ⟨r,Zd9 e,hq⟩
 exact this n 0 v (by omega) h0
theorem YV {τ ρ:Type} {step:τ->Option (τ ⊕ ρ)} (n:Nat) (I:Nat->τ->Prop) (R:ρ) {v:τ} (h0:I 0 v)
  (hs:∀ k v,k<n->I k v->(∃ v',step v=some (.inl v')/\I (k+1) v')\/step v=some (.inr R))
  (hx:∀ v,I n v->step v=some (.inr R)):Zr step v=some R:=by
 obtain ⟨r,h1,h2⟩:=Za0 n I (λr=>r=R) h0 (λk v hk hI=>(hs k v hk hI).elim .inl (λh=>.inr ⟨R,h,rfl⟩)) (λv hI=>⟨R,hx v hI,rfl⟩);rw[h1,h2]
theorem Y3 {α:Type} {l:List α} {k:Nat} {x:α} (hx:l[k]?=some x):l.take (k+1)=l.take k++[x]:=by
 rw[List.take_add_one,hx];rfl
theorem Zlj {ρ:Type} {g:Nat->Option ρ} {v:ρ} (h:∃ n,g n=some v) (hd:∀ n r,g n=some r->r=v):Zsl g=some v:=by
 obtain ⟨n,hn⟩:=h;unfold Zsl;have hx:∃ r n,g n=some r:=⟨v,n,hn⟩;grind
def sm:(t:Ty)->t.den->Prop
 | .str,s=>(s.length:Int)<=1048576
 | .sl t,l=>(l.length:Int)<=1048576/\∀ x∈l,sm t x
 | .pair a b,d=>sm a d.1/\sm b d.2
 | _,_=>True
noncomputable def tr (p:Prop):Bool:=@decide p (Classical.propDecidable p)
theorem ZiM {p:Prop} {b:Bool} (h:b=true<->p):tr p=b:=by
 unfold tr;grind
theorem XD (p:Prop):tr p=true<->p:=by simp[tr]
theorem Yc {p:Prop} (h:p):tr p=true:=(XD p).2 h
theorem ZM {p:Prop} (h:¬p):tr p=false:=by simp[tr,h]
def within (n a b:Int):Bool:=decide (a<=n)&&decide (n<=b)
theorem Qh (n a b:Int):ZT n a b=some (within n a b):=by
 unfold ZT within;split<;>simp[*]
theorem QZ (n a b:Int):ZX n a b=some (within n a b):=by
 unfold ZX within;split<;>simp[*]
theorem within_iff (n a b:Int):within n a b=true<->a<=n/\n<=b:=by simp[within]
def ZdU (b:UInt8):Bool:=decide (97<=b.toNat)&&decide (b.toNat<=122)
def ZhS (b:UInt8):Bool:=decide (48<=b.toNat)&&decide (b.toNat<=57)
def Vw (s:List UInt8):Bool:=decide (1<=s.length)&&decide (s.length<=8)&&s.all (λb=>ZdU b||ZhS b)&&(match s with
 | b::_=>ZdU b
 | []=>false)
def ZlE (s:List UInt8) (i:Nat):Prop:=∀ (j:Nat) (b:UInt8),j<i->s[j]?=some b->(ZdU b||ZhS b)=true/\(j=0->ZdU b=true)
theorem ZmT {s:List UInt8} {i:Nat} {x:UInt8} (h:ZlE s i) (hx:s[i]?=some x) (h1:(ZdU x||ZhS x)=true) (h2:i=0->ZdU x=true):ZlE s (i+1):=by
 intro j b hj hb;by_cases e:j<i
 ·exact h j b e hb
 ·have:j=i:=by omega
  subst this;rw[hx] at hb;injection hb with hb;subst hb
  exact ⟨h1,h2⟩
theorem Zld {s:List UInt8} (h:ZlE s s.length):Vw s=(decide (1<=s.length)&&decide (s.length<=8)):=by
 unfold Vw;have h1:s.all (λb=>ZdU b||ZhS b)=true:=by
  rw[U6];intro b hb;obtain ⟨j,hj⟩:=Uu.1 hb;exact (h j b (Ua.1 hj).1 hj).1
 rw[h1];cases s with
 | nil=>rfl
 | cons b r =>
  have:=(h 0 b (by simp) rfl).2 rfl;simp[this]
theorem Zob {s:List UInt8} {j:Nat} {b:UInt8} (hb:s[j]?=some b) (h:(ZdU b||ZhS b)=false\/j=0/\ZdU b=false):Vw s=false:=by
 unfold Vw;rcases h with h | ⟨rfl,h⟩
 ·have:s.all (λb=>ZdU b||ZhS b)=false:=by
   rw[List.all_eq_false];exact ⟨b,Ui hb,by simp[h]⟩
  simp[this]
 ·cases s with
  | nil=>simp at hb
  | cons c r=>simp at hb;subst hb;simp[h]
theorem JD (s:List UInt8) (hl:s.length<=4611686018427387904):Vy s=some (Vw s):=by
 unfold Vy;refine YV s.length (λk v=>v.1=(k:Int)/\ZlE s k) _ ⟨rfl,λj b hj=>by omega⟩ ?_ ?_
 ·rintro k ⟨i,⟨⟩⟩ hk ⟨rfl,hS⟩
  have hx:s[k]?=some s[k]:=Ub hk;generalize s[k]=x at hx;simp only[Zbz,Zy,hx,Bq,show (k:Int)<(s.length:Int) from by omega,Um,Xa (show (-9223372036854775808:Int)<=(k:Int)+1 by omega) (by omega)];have ok:(ZdU x||ZhS x)=true->(k=0->ZdU x=true)->(((k:Int)+1,()):Int×Unit).1=((k+1:Nat):Int)/\ZlE s (k+1):=λh1 h2=>⟨by simp,ZmT hS hx h1 h2⟩;have bad:((ZdU x||ZhS x)=false\/k=0/\ZdU x=false)->(some (Sum.inr false):Option (Int×Unit ⊕ Bool))=some (Sum.inr (Vw s)):=λh=>by rw[Zob hx h]
  simp only[ZdU,ZhS] at ok bad;repeat' split
  all_goals first
   | (left;refine ⟨_,rfl,ok ?_ ?_⟩<;>simp<;>omega)
   | (right;refine bad ?_;first | (left;simp;omega) | (right;simp;omega))
 ·rintro ⟨i,⟨⟩⟩ ⟨rfl,hS⟩
  simp only[Zbz,Uh,Uk];rw[Zld hS];split
  ·rename_i h
   have h1:1<=s.length:=by omega
   have h2:decide ((s.length:Int)<=8)=decide (s.length<=8):=by rw[decide_eq_decide];omega
   simp[h1,h2]
  ·have h1:¬1<=s.length:=by omega
   simp[h1]
theorem dropWhile_nil {p:UInt8->Bool}:∀ (m:List UInt8),(∀ x∈m.dropWhile p,p x=true)->∀ x∈m,p x=true
 | [],_=>by simp
 | a::m,h=>by
  by_cases ha:p a=true
  ·rw[List.dropWhile_cons_of_pos ha] at h
   intro x hx;rcases Uo.1 hx with rfl | hx
   ·exact ha
   ·exact dropWhile_nil m h x hx
  ·rw[List.dropWhile_cons_of_neg ha] at h
   exact absurd (h a (by simp)) ha
theorem Zgx {p:UInt8->Bool}:∀ (m:List UInt8),m.dropWhile p=[]<->∀ x∈m,p x=true
 | []=>by simp
 | a::m=>by
  by_cases ha:p a=true
  ·rw[List.dropWhile_cons_of_pos ha,Zgx m];simp[ha]
  ·rw[List.dropWhile_cons_of_neg ha];simp[ha]
theorem Zqi (s cs:List UInt8):Lib.trimS s cs=[]<->∀ b∈s,cs.contains b=true:=by
 unfold Lib.trimS Lib.trimLeftS Lib.trimRightS;rw[Zgx];constructor
 ·intro h b hb
  exact dropWhile_nil s.reverse (λx hx=>h x (List.mem_reverse.2 hx)) b (List.mem_reverse.2 hb)
 ·intro h b hb
  exact h b (List.mem_reverse.1 ((List.dropWhile_sublist _).subset (List.mem_reverse.1 hb)))
def letters:List UInt8:=[97,98,99,100,101,102,103,104,105,106,107,108,109,110,111,112,113,114,115,116,117,118,119,120,121,122]
def Zel:List UInt8:=letters++[48,49,50,51,52,53,54,55,56,57]
theorem ZrC {p:UInt8->Bool} (h:(List.range 256).all (λn=>p (UInt8.ofNat n))=true) (b:UInt8):p b=true:=by
 rw[U6] at h;have:=h b.toNat (List.mem_range.2 b.toNat_lt);simpa using this
theorem ZeK (b:UInt8):Zel.contains b=(ZdU b||ZhS b):=by
 have:=ZrC (p:=λb=>Zel.contains b == (ZdU b||ZhS b)) (by decide +kernel) b;simpa using this
theorem Zmj (s:List UInt8):Lib.trimS s Zel=[]<->s.all (λb=>ZdU b||ZhS b)=true:=by
 rw[Zqi,U6];simp only[ZeK]
theorem Zk8 (b:UInt8):decide (0<=(Lib.indexByte letters b:Int))=ZdU b:=by
 have:=ZrC (p:=λb=>decide (0<=(Lib.indexByte letters b:Int)) == ZdU b) (by decide +kernel) b;simpa using this
theorem ZdT (s:List UInt8):ZbY s=some (Vw s):=by
 unfold ZbY;rw[Qh,Bq];split
 ·rename_i h
  rw[within_iff] at h;rw[Zt (by omega)];split
  ·rename_i ht
   have ht':=(Zmj s).1 ht;cases s with
   | nil=>simp at h
   | cons b r =>
    have e:atI (b::r) (0:Int)=some b:=rfl;rw[e,Bq];have e1:((b.toNat:Int)).toNat.toUInt8=b:=by simp
    rw[e1];have h1:1<=(b::r).length:=by simp
    have h2:(b::r).length<=8:=by omega
    have:=Zk8 b;unfold letters at this;rw[this];simp only[Vw,ht',Kf h1,Kf h2,Bool.true_and]
  ·rename_i ht
   have ht':¬s.all (λb=>ZdU b||ZhS b)=true:=λe=>ht ((Zmj s).2 e);simp only[Vw,Bool.eq_false_iff.2 ht',Bool.and_false,Bool.false_and]
 ·rename_i h
  rw[within_iff] at h;have:¬(1<=s.length/\s.length<=8):=by omega
  rw[eq_comm];congr 1;rw[Bool.eq_false_iff];intro hh;simp only[Vw,Ul,Uq] at hh;omega
theorem ZiF (l:List (List UInt8)) (s:List UInt8) (hl:l.length<=4611686018427387904):∃ r,Xk l s=some r/\(0<=r<->s∈l):=by
 unfold Xk;refine Za0 l.length (λk v=>v.1=(k:Int)/\s ∉ l.take k) _ ⟨rfl,by simp⟩ ?_ ?_
 ·rintro k ⟨i,⟨⟩⟩ hk ⟨rfl,hS⟩
  have hx:l[k]?=some l[k]:=Ub hk;generalize l[k]=x at hx;simp only[Xl,Zy,hx,Bq,show (k:Int)<(l.length:Int) from by omega,Um,Xa (show (-9223372036854775808:Int)<=(k:Int)+1 by omega) (by omega)];split
  ·rename_i e;subst e
   exact .inr ⟨_,rfl,λ_=>Ui hx,λ_=>by simp⟩
  ·rename_i e
   exact .inl ⟨_,rfl,by simp,by rw[Y3 hx];simp[hS,e]⟩
 ·rintro ⟨i,⟨⟩⟩ ⟨rfl,hS⟩
  simp only[Xl,Uh,Uk];refine ⟨_,rfl,λh=>by omega,λh=>absurd h (by simpa using hS)⟩
theorem Zgf (l:List (List UInt8)) (s:List UInt8) (hl:l.length<=4611686018427387904):YX l s=some (decide (s∈l)):=by
 obtain ⟨r,h1,h2⟩:=ZiF l s hl;unfold YX;rw[h1,Bq];simp only[h2]
def Qa (l:List (List UInt8)) (k:Nat):Prop:=∀ (j:Nat) (s:List UInt8),j<k->l[j]?=some s->Vw s=true/\s ∉ l.take j
theorem XU (l:List (List UInt8)) (hl:l.length<=4611686018427387904):XE l=some (tr (Qa l l.length)):=by
 unfold XE;refine YV l.length (λk v=>v.1=(k:Int)/\Qa l k) _ ⟨rfl,λj s hj=>by omega⟩ ?_ ?_
 ·rintro k ⟨i,⟨⟩⟩ hk ⟨rfl,hS⟩
  have hx:l[k]?=some l[k]:=Ub hk;generalize l[k]=x at hx;simp only[ZaB,Zy,hx,Bq,show (k:Int)<(l.length:Int) from by omega,Um,Xa (show (-9223372036854775808:Int)<=(k:Int)+1 by omega) (by omega),ZdT];split
  ·rename_i hn
   rw[Zt (by omega),Zt (by omega)];simp only[Int.toNat_natCast,Int.toNat_zero,Ke,Nat.sub_zero];rw[Zgf _ _ (by simp only[Un];omega),Bq];split
   ·rename_i hm
    right;rw[ZM];intro hh;exact (hh k x hk hx).2 (by simpa using hm)
   ·rename_i hm
    refine .inl ⟨_,rfl,by simp,λj s hj hs=>?_⟩;by_cases e:j<k
    ·exact hS j s e hs
    ·have:j=k:=by omega
     subst this;rw[hx] at hs;injection hs with hs;subst hs
     exact ⟨hn,by simpa using hm⟩
  ·rename_i hn
   right;rw[ZM];intro hh;exact hn (hh k x hk hx).1
 ·rintro ⟨i,⟨⟩⟩ ⟨rfl,hS⟩
  simp only[ZaB,Uh,Uk];rw[Yc hS]
def allIn (l:List Int) (lo hi:Int):Bool:=l.all (λn=>within n lo hi)
theorem JX (l:List Int) (lo hi:Int) (hl:l.length<=4611686018427387904):Y1 l lo hi=some (allIn l lo hi):=by
 have h1:∃ r,Ye l (lo,hi,())=some r/\(0<=r<->allIn l lo hi=false):=by
  unfold Ye;refine Za0 l.length (λk v=>v.1=(k:Int)/\allIn (l.take k) lo hi=true) _ ⟨rfl,rfl⟩ ?_ ?_
  ·rintro k ⟨i,⟨⟩⟩ hk ⟨rfl,hS⟩
   have hx:l[k]?=some l[k]:=Ub hk;generalize l[k]=x at hx;simp only[Yk,ZbW,Qh,Zy,hx,Bq,show (k:Int)<(l.length:Int) from by omega,Um,Xa (show (-9223372036854775808:Int)<=(k:Int)+1 by omega) (by omega)];cases hw:within x lo hi
   ·refine .inr ⟨_,rfl,λ_=>?_,λ_=>by simp⟩
    rw[allIn,List.all_eq_false];grind
   ·refine .inl ⟨_,rfl,by simp,?_⟩
    rw[Y3 hx,allIn,List.all_append];simp only[allIn] at hS;simp[hS,hw]
  ·rintro ⟨i,⟨⟩⟩ ⟨rfl,hS⟩
   rw[Ut] at hS;simp only[Yk,Uh,Uk];grind
 obtain ⟨r,h1,h2⟩:=h1;unfold Y1 Yn;grind
def Len {α:Type} (l:List α):Prop:=l.length<=4611686018427387904
theorem ZoD {k:Nat} {α:Type} {l:List α} (hl:Len l) (hk:k<=l.length):Wq ((k:Int)+1)=((k+1:Nat):Int):=by
 have:l.length<=4611686018427387904:=hl;rw[Xa (by omega) (by omega)];simp
def Za9 {α:Type} (p:α->Bool) (l:List α):Int:=match l.findIdx? p with
 | some i=>i
 | none=>-1
theorem Zpm {α:Type} {p:α->Bool} {l:List α}:Za9 p l<l.length:=by
 unfold Za9;split
 ·rename_i i h
  have:=(U5.1 h).1;omega
 ·omega
theorem QS {α:Type} {p:α->Bool} {l:List α}:0<=Za9 p l<->l.any p=true:=by
 unfold Za9;grind
theorem J2 {α ρ:Type} {l:List α} (hl:Len l) {p:α->Bool} {step:Int×Unit->Option ((Int×Unit) ⊕ ρ)} {out:Int->ρ}
  (hs:∀ (k:Nat) (x:α),l[k]?=some x->step ((k:Int),())=some (if p x=true then .inr (out k) else .inl (Wq ((k:Int)+1),())))
  (hx:step ((l.length:Int),())=some (.inr (out (-1)))):Zr step (0,())=some (out (Za9 p l)):=by
 refine YV l.length (λk v=>v.1=(k:Int)/\∀ x∈l.take k,p x=false) _ ⟨rfl,by simp⟩ ?_ ?_
 ·rintro k ⟨i,⟨⟩⟩ hk ⟨hi,hS⟩
  simp only at hi;subst hi;have hx:l[k]?=some l[k]:=Ub hk;rw[hs k _ hx,ZoD hl (by omega)];split
  ·rename_i hp
   right;have:l.findIdx? p=some k:=by
    rw[U5];refine ⟨hk,hp,λj hj=>?_⟩;have:=hS l[j] (Uu.2 ⟨j,by grind⟩);simp[this]
   unfold Za9;rw[this]
  ·rename_i hp
   refine .inl ⟨_,rfl,rfl,?_⟩;rw[Y3 hx];grind
 ·rintro ⟨i,⟨⟩⟩ ⟨hi,hS⟩
  simp only at hi;subst hi;rw[Ut] at hS;have:l.findIdx? p=none:=List.findIdx?_eq_none_iff.2 hS;rw[hx];unfold Za9;rw[this]
def foldI {α σ:Type} (f:Nat->α->σ->σ):Nat->List α->σ->σ
 | _,[],s=>s
 | k,x::r,s=>foldI f (k+1) r (f k x s)
theorem Zii {α σ:Type} (f:Nat->α->σ->σ):∀ (l r:List α) (m:Nat) (s:σ),foldI f m (l++r) s=foldI f (m+l.length) r (foldI f m l s)
 | [],r,m,s=>by simp[foldI]
 | x::l,r,m,s=>by
  simp only[UR,foldI,Ud,Zii f l r];grind
theorem Zkt {α σ:Type} {f:Nat->α->σ->σ} {l:List α} {k:Nat} {x:α} (hx:l[k]?=some x) (s:σ):foldI f 0 (l.take (k+1)) s=f k x (foldI f 0 (l.take k) s):=by
 have hk:=(Ua.1 hx).1;rw[Y3 hx,Zii];simp only[foldI,UB,Un];grind
theorem Zft {α σ τ ρ:Type} {l:List α} (hl:Len l) (pack:σ->Int->τ) {f:Nat->α->σ->σ} {step:τ->Option (τ ⊕ ρ)} {s0:σ} {R:ρ} (I:Nat->σ->Prop) (h0:I 0 s0)
  (hs:∀ (k:Nat) (x:α) (s:σ),l[k]?=some x->I k s->s=foldI f 0 (l.take k) s0->step (pack s (k:Int))=some (.inl (pack (f k x s) (Wq ((k:Int)+1))))/\I (k+1) (f k x s))
  (hx:∀ s,I l.length s->s=foldI f 0 l s0->step (pack s (l.length:Int))=some (.inr R)):Zr step (pack s0 0)=some R:=by
 refine YV l.length (λk v=>v=pack (foldI f 0 (l.take k) s0) (k:Int)/\I k (foldI f 0 (l.take k) s0)) _ ⟨rfl,h0⟩ ?_ ?_
 ·rintro k _ hk ⟨rfl,hI⟩
  have hx:l[k]?=some l[k]:=Ub hk;obtain ⟨h1,h2⟩:=hs k _ _ hx hI rfl;rw[h1,ZoD hl (by omega)];exact .inl ⟨_,rfl,by rw[Zkt hx],by rw[Zkt hx];exact h2⟩
 grind
noncomputable def sel {ρ:Type} (P:Prop) (a b:ρ):ρ:=match tr P with
 | true=>a
 | false=>b
theorem YM {ρ:Type} {P:Prop} (h:P) (a b:ρ):sel P a b=a:=by simp[sel,Yc h]
theorem YA {ρ:Type} {P:Prop} (h:¬P) (a b:ρ):sel P a b=b:=by simp[sel,ZM h]
theorem Zhg (P:Prop):sel P true false=tr P:=by
 by_cases h:P
 ·rw[YM h,Yc h]
 ·rw[YA h,ZM h]
def ZcN {α:Type} (l:List α) (P:Nat->α->Prop):Prop:=∀ (k:Nat) (x:α),l[k]?=some x->P k x
theorem XJ {α ρ:Type} {l:List α} (hl:Len l) (P:Nat->α->Prop) {step:Int×Unit->Option ((Int×Unit) ⊕ ρ)} {bad good:ρ}
  (hs:∀ (k:Nat) (x:α),l[k]?=some x->k<l.length->(∀ (j:Nat) (y:α),j<k->l[j]?=some y->P j y)->(P k x->step ((k:Int),())=some (.inl (Wq ((k:Int)+1),())))/\(¬P k x->step ((k:Int),())=some (.inr bad)))
  (hx:ZcN l P->step ((l.length:Int),())=some (.inr good)):Zr step (0,())=some (sel (ZcN l P) good bad):=by
 refine YV l.length (λk v=>v.1=(k:Int)/\∀ (j:Nat) (y:α),j<k->l[j]?=some y->P j y) _ ⟨rfl,λj y hj=>by omega⟩ ?_ ?_
 ·rintro k ⟨i,⟨⟩⟩ hk ⟨hi,hS⟩
  simp only at hi;subst hi;have hx:l[k]?=some l[k]:=Ub hk;obtain ⟨h1,h2⟩:=hs k _ hx hk hS;by_cases hP:P k l[k]
  ·rw[h1 hP,ZoD hl (by omega)]
   grind
  ·right
   rw[h2 hP,YA (λh=>hP (h k _ hx))]
 ·rintro ⟨i,⟨⟩⟩ ⟨hi,hS⟩
  simp only at hi;subst hi;have hA:ZcN l P:=λk x hk=>hS k x (Ua.1 hk).1 hk;rw[hx hA,YM hA]
theorem Zny {ρ:Type} (m n:Nat) (hmn:m<=n) (hn:n<=4611686018427387904) (P:Nat->Prop) {step:Int×Unit->Option ((Int×Unit) ⊕ ρ)} {bad good:ρ}
  (hs:∀ k:Nat,m<=k->k<n->(∀ j,m<=j->j<k->P j)->(P k->step ((k:Int),())=some (.inl (Wq ((k:Int)+1),())))/\(¬P k->step ((k:Int),())=some (.inr bad)))
  (hx:(∀ j,m<=j->j<n->P j)->step ((n:Int),())=some (.inr good)):Zr step ((m:Int),())=some (sel (∀ j,m<=j->j<n->P j) good bad):=by
 refine YV (n-m) (λk v=>v.1=((m+k:Nat):Int)/\∀ j,m<=j->j<m+k->P j) _ ⟨by simp,λj h1 h2=>by omega⟩ ?_ ?_
 ·rintro k ⟨i,⟨⟩⟩ hk ⟨hi,hS⟩
  simp only at hi;subst hi;obtain ⟨h1,h2⟩:=hs (m+k) (by omega) (by omega) hS;by_cases hP:P (m+k)
  ·rw[h1 hP,Xa (by omega) (by omega)]
   grind
  ·right
   rw[h2 hP,YA (λh=>hP (h (m+k) (by omega) (by omega)))]
 ·rintro ⟨i,⟨⟩⟩ ⟨hi,hS⟩
  simp only at hi;subst hi;have e:m+(n-m)=n:=by omega
  rw[e] at hS ⊢;rw[hx hS,YM hS]
theorem Xj {l:List ZY} {f:Bool×Unit} (hl:Len l) (p:ZY->Bool) (hp:∀ x∈l,Ql x f.fst=some (p x)):ZR l f=some (Za9 p l):=by
 unfold ZR;refine J2 (out:=λi=>i) hl (p:=p) (λk x hx=>?_) ?_
 ·have hk:=(Ua.1 hx).1
  simp only[Z8,Zy,hx,Bq,show (k:Int)<(l.length:Int) from by omega,Um,hp x (Ui hx)];split<;>rfl
 ·simp only[Z8,Uh,Uk]
theorem Y7 {l:List ZY} {f:Bool×Unit} (hl:Len l) (p:ZY->Bool) (hp:∀ x∈l,Ql x f.fst=some (p x)):ZJ l f=some (l.any p):=by
 unfold ZJ;rw[Xj hl p hp,Bq];congr 1;rw[Ka,Uq,QS]
theorem Xy {l:List YO} {f:Unit} (hl:Len l) (p:YO->Bool) (hp:∀ x∈l,Zbc x=some (p x)):Z0 l f=some (Za9 p l):=by
 unfold Z0;refine J2 (out:=λi=>i) hl (p:=p) (λk x hx=>?_) ?_
 ·have hk:=(Ua.1 hx).1
  simp only[Yb,Zy,hx,Bq,show (k:Int)<(l.length:Int) from by omega,Um,hp x (Ui hx)];split<;>rfl
 ·simp only[Yb,Uh,Uk]
theorem Xo {l:List ZL} {f:ZL×Unit} (hl:Len l) (p:ZL->Bool) (hp:∀ x∈l,Xm x f.fst=some (p x)):ZU l f=some (Za9 p l):=by
 unfold ZU;refine J2 (out:=λi=>i) hl (p:=p) (λk x hx=>?_) ?_
 ·have hk:=(Ua.1 hx).1
  simp only[Z9,Zy,hx,Bq,show (k:Int)<(l.length:Int) from by omega,Um,hp x (Ui hx)];split<;>rfl
 ·simp only[Z9,Uh,Uk]
theorem Xb {l:List ZL} {f:ZL×Unit} (hl:Len l) (p:ZL->Bool) (hp:∀ x∈l,Xm x f.fst=some (p x)):ZO l f=some (l.any p):=by
 unfold ZO;rw[Xo hl p hp,Bq];congr 1;rw[Ka,Uq,QS]
theorem XF {l:List ZL} {f:Int×Unit} (hl:Len l) (p:ZL->Bool) (hp:∀ x∈l,Zap x f.fst=some (p x)):Z5 l f=some (Za9 p l):=by
 unfold Z5;refine J2 (out:=λi=>i) hl (p:=p) (λk x hx=>?_) ?_
 ·have hk:=(Ua.1 hx).1
  simp only[Yf,Zy,hx,Bq,show (k:Int)<(l.length:Int) from by omega,Um,hp x (Ui hx)];split<;>rfl
 ·simp only[Yf,Uh,Uk]
theorem Xq {l:List ZL} {f:Int×Unit} (hl:Len l) (p:ZL->Bool) (hp:∀ x∈l,Zap x f.fst=some (p x)):ZV l f=some (l.any p):=by
 unfold ZV;rw[XF hl p hp,Bq];congr 1;rw[Ka,Uq,QS]
theorem Xr {l:List Int} {f:Zg×Unit} (hl:Len l) (p:Int->Bool) (hp:∀ x∈l,Y0 x f.fst=some (p x)):ZW l f=some (Za9 p l):=by
 unfold ZW;refine J2 (out:=λi=>i) hl (p:=p) (λk x hx=>?_) ?_
 ·have hk:=(Ua.1 hx).1
  simp only[Ya,Zy,hx,Bq,show (k:Int)<(l.length:Int) from by omega,Um,hp x (Ui hx)];split<;>rfl
 ·simp only[Ya,Uh,Uk]
theorem Xd {l:List Int} {f:Zg×Unit} (hl:Len l) (p:Int->Bool) (hp:∀ x∈l,Y0 x f.fst=some (p x)):ZP l f=some (l.any p):=by
 unfold ZP;rw[Xr hl p hp,Bq];congr 1;rw[Ka,Uq,QS]
theorem QX {l:List Int} {f:Unit} (hl:Len l) (p:Int->Bool) (hp:∀ x∈l,Zaq x=some (p x)):Yl l f=some (Za9 p l):=by
 unfold Yl;refine J2 (out:=λi=>i) hl (p:=p) (λk x hx=>?_) ?_
 ·have hk:=(Ua.1 hx).1
  simp only[Yq,Zy,hx,Bq,show (k:Int)<(l.length:Int) from by omega,Um,hp x (Ui hx)];split<;>rfl
 ·simp only[Yq,Uh,Uk]
theorem Qv {l:List Int} {f:Unit} (hl:Len l) (p:Int->Bool) (hp:∀ x∈l,Zaq x=some (p x)):Yh l f=some (l.any p):=by
 unfold Yh;rw[QX hl p hp,Bq];congr 1;rw[Ka,Uq,QS]
theorem Y8 {l:List Zd} {f:Yr×Unit} (hl:Len l) (p:Zd->Bool) (hp:∀ x∈l,X6 x f.fst=some (p x)):ZK l f=some (Za9 p l):=by
 unfold ZK;refine J2 (out:=λi=>i) hl (p:=p) (λk x hx=>?_) ?_
 ·have hk:=(Ua.1 hx).1
  simp only[Z4,Zy,hx,Bq,show (k:Int)<(l.length:Int) from by omega,Um,hp x (Ui hx)];split<;>rfl
 ·simp only[Z4,Uh,Uk]
theorem Y2 {l:List Zd} {f:Yr×Unit} (hl:Len l) (p:Zd->Bool) (hp:∀ x∈l,X6 x f.fst=some (p x)):ZI l f=some (l.any p):=by
 unfold ZI;rw[Y8 hl p hp,Bq];congr 1;rw[Ka,Uq,QS]
theorem YR {l:List Zk} {f:Yr×Unit} (hl:Len l) (p:Zk->Bool) (hp:∀ x∈l,X7 x f.fst=some (p x)):ZG l f=some (Za9 p l):=by
 unfold ZG;refine J2 (out:=λi=>i) hl (p:=p) (λk x hx=>?_) ?_
 ·have hk:=(Ua.1 hx).1
  simp only[ZN,Zy,hx,Bq,show (k:Int)<(l.length:Int) from by omega,Um,hp x (Ui hx)];split<;>rfl
 ·simp only[ZN,Uh,Uk]
theorem YN {l:List Zk} {f:Yr×Unit} (hl:Len l) (p:Zk->Bool) (hp:∀ x∈l,X7 x f.fst=some (p x)):ZE l f=some (l.any p):=by
 unfold ZE;rw[YR hl p hp,Bq];congr 1;rw[Ka,Uq,QS]
theorem Xe {l:List Zm} {f:Int×Unit} (hl:Len l) (p:Zm->Bool) (hp:∀ x∈l,ZcG x f.fst=some (p x)):ZQ l f=some (Za9 p l):=by
 unfold ZQ;refine J2 (out:=λi=>i) hl (p:=p) (λk x hx=>?_) ?_
 ·have hk:=(Ua.1 hx).1
  simp only[Z7,Zy,hx,Bq,show (k:Int)<(l.length:Int) from by omega,Um,hp x (Ui hx)];split<;>rfl
 ·simp only[Z7,Uh,Uk]
theorem ZbR {a b:Bool} (h:a=true<->b=true):a=b:=by grind
theorem YG {P Q:Prop} (h:P<->Q):tr P=tr Q:=by rw[propext h]
def Inc (l:List Int):Prop:=∀ (k:Nat) (x y:Int),l[k]?=some x->l[k+1]?=some y->x<y
def ZeO (l:List Int) (lo hi:Int):Prop:=∀ x∈l,lo<=x/\x<=hi
theorem Zgq (l:List Int) (lo hi:Int):allIn l lo hi=true<->ZeO l lo hi:=by
 unfold allIn ZeO;rw[U6];simp only[within_iff]
theorem Zab (l:List Int):Y6 l=some (l.length:Int):=rfl
theorem Zaa (l:List Int) (hl:Len l):Qm l=some (tr (Inc l)):=by
 unfold Qm;have h4:l.length<=4611686018427387904:=hl;by_cases h0:l.length=0
 ·have:l=[]:=Us h0
  subst this;rw[Zd9 (r:=true) (by rfl)];have h0:Inc []:=λk x y h=>by simp at h
  rw[Yc h0]
 have:=Zny (ρ:=Bool) 1 l.length (by omega) h4 (λk=>∀ x y,l[k-1]?=some x->l[k]?=some y->x<y) (step:=λv=>Xi l v.1) (bad:=false) (good:=true)
  (λk h1 h2 _=>by
   obtain ⟨x,hx⟩:∃ x,l[k-1]?=some x:=⟨_,Ub (by omega)⟩;obtain ⟨y,hy⟩:∃ y,l[k]?=some y:=⟨_,Ub h2⟩;have e1:Wq ((k:Int)-1)=((k-1:Nat):Int):=by rw[Xa (by omega) (by omega)];omega
   simp only[Xi,show (k:Int)<(l.length:Int) from by omega,Um,e1,Zy,hx,hy,Bq];grind)
  (λ_=>by simp only[Xi,Uh,Uk])
 refine (show Zr (λv=>Xi l v.1) ((1:Int),())=_ from this).trans ?_;rw[Zhg];congr 1;refine YG ⟨λh k x y hx hy=>?_,λh j h1 h2 x y hx hy=>?_⟩
 ·exact h (k+1) (by omega) (Ua.1 hy).1 x y (by simpa using hx) hy
 ·exact h (j-1) x y hx (by grind)
def Zdb (l:List Int):Prop:=1<=l.length/\l.length<=4/\ZeO l 0 100000/\Inc l
theorem ZfQ (l:List Int) (hl:Len l):Zdk l=some (tr (Zdb l)):=by
 unfold Zdk;rw[Zab,Bq,Qh,Bq,JX l _ _ hl,Bq,Zaa l hl,Bq];have e:tr (Zdb l)=(within (l.length:Int) 1 4&&allIn l 0 100000&&tr (Inc l)):=by
  refine ZiM ?_;simp only[Ul,within_iff,Zgq,XD,Zdb];grind
 grind
theorem Zfm (l:List Int) (hl:Len l):Zcy l=some (tr (Zdb l)):=by
 unfold Zcy;have h4:l.length<=4611686018427387904:=hl;rw[XJ hl (λk x=>(0<=x/\x<=100000)/\(0<k->∀ y,l[k-1]?=some y->y<x)) (bad:=false) (good:=decide (1<=l.length/\l.length<=4))
  (λk x hx hk _=>by
   simp only[Zbv,show (k:Int)<(l.length:Int) from by omega,Um,Zy,hx,Bq,QZ];by_cases hw:within x 0 100000=true
   ·rw[Uf hw]
    by_cases h0:0<k
    ·obtain ⟨y,hy⟩:∃ y,l[k-1]?=some y:=⟨_,Ub (by omega)⟩
     have e1:Wq ((k:Int)-1)=((k-1:Nat):Int):=by rw[Xa (by omega) (by omega)];omega
     rw[Uf (by omega),e1,Zy,hy,Bq];refine ⟨λh=>?_,λh=>?_⟩
     ·grind
     ·rw[Uf]
      rcases Int.lt_or_le y x with h' | h'
      ·exact absurd ⟨(within_iff _ _ _).1 hw,λ_ z hz=>by grind⟩ h
      ·exact h'
    ·rw[Ug (by omega)]
     exact ⟨λ_=>rfl,λh=>absurd ⟨(within_iff _ _ _).1 hw,λh'=>absurd h' h0⟩ h⟩
   ·rw[Ug hw]
    exact ⟨λh=>absurd ((within_iff _ _ _).2 h.1) hw,λ_=>rfl⟩)
  (λ_=>by
   simp only[Zbv,Uh,Uk];by_cases h1:1<=l.length
   ·rw[Uf (by omega)]
    congr 2;grind
   grind)]
 congr 1;refine ZbR ?_;rw[XD];by_cases h:ZcN l (λk x=>(0<=x/\x<=100000)/\(0<k->∀ y,l[k-1]?=some y->y<x))
 ·rw[YM h,Uq]
  constructor
  ·rintro ⟨h1,h2⟩
   refine ⟨h1,h2,λx hx=>?_,λk x y hx hy=>?_⟩
   ·obtain ⟨k,hk⟩:=Uu.1 hx
    exact (h k x hk).1
   ·exact (h (k+1) y hy).2 (by omega) x (by simpa using hx)
  ·intro hh
   exact ⟨hh.1,hh.2.1⟩
 ·rw[YA h]
  constructor
  ·intro hh;cases hh
  ·intro hh
   refine absurd ?_ h;intro k x hk;refine ⟨hh.2.2.1 x (Ui hk),λh0 y hy=>?_⟩;exact hh.2.2.2 (k-1) y x hy (by grind)
def ZbQ (t:ZY):Prop:=Zdb (Gv t)/\Zdb (Gl t)/\(KT t).length=(Gv t).length*(Gl t).length/\ZeO (KT t) (-1000000) 1000000
def Zsu (t:ZY):Prop:=Len (Gv t)/\Len (Gl t)/\Len (KT t)
theorem Zdb.mul {a b:List Int} (ha:Zdb a) (hb:Zdb b):a.length*b.length<=16:=by
 have h1:=ha.2.1;have h2:=hb.2.1
 calc a.length*b.length<=4*4:=Nat.mul_le_mul h1 h2
  _=16:=rfl
theorem ZnB {a b:List Int} (ha:Zdb a) (hb:Zdb b):Wq ((a.length:Int)*(b.length:Int))=((a.length*b.length:Nat):Int):=by
 have:=ha.mul hb;have e:(a.length:Int)*(b.length:Int)=((a.length*b.length:Nat):Int):=by simp
 rw[e,Xa (by omega) (by omega)]
theorem Zjk (t:ZY) (h:Zsu t):ZdA t=some (tr (ZbQ t)):=by
 unfold ZdA;rw[ZfQ _ h.1,Bq];by_cases h1:Zdb (Gv t)
 ·rw[Uf (Yc h1),ZfQ _ h.2.1,Bq]
  by_cases h2:Zdb (Gl t)
  ·rw[Uf (Yc h2),ZnB h1 h2]
   by_cases h3:(KT t).length=(Gv t).length*(Gl t).length
   ·rw[Uf (by rw[h3]),JX _ _ _ h.2.2,Bq]
    congr 1;refine ZbR ?_;rw[Zgq,XD];exact ⟨λh4=>⟨h1,h2,h3,h4⟩,λh4=>h4.2.2.2⟩
   ·rw[Ug (by omega),ZM (λhh=>h3 hh.2.2.1)]
  ·rw[Ug (by rw[ZM h2];simp),ZM (λhh=>h2 hh.2.1)]
 ·rw[Ug (by rw[ZM h1];simp),ZM (λhh=>h1 hh.1)]
theorem ZjM (t:ZY) (h:Zsu t):ZdM t=some (tr (ZbQ t)):=by
 unfold ZdM;rw[Zfm _ h.1,Bq];by_cases h1:Zdb (Gv t)
 ·rw[Uf (Yc h1),Zfm _ h.2.1,Bq]
  by_cases h2:Zdb (Gl t)
  ·rw[Uf (Yc h2),ZnB h1 h2]
   by_cases h3:(KT t).length=(Gv t).length*(Gl t).length
   ·rw[Uf (by rw[h3]),XJ h.2.2 (λk x=>-1000000<=x/\x<=1000000) (bad:=false) (good:=true)
     (λk x hx hk _=>by
      simp only[Zbt,show (k:Int)<((KT t).length:Int) from by omega,Um,Zy,hx,Bq,QZ,within_iff];grind)
     (λ_=>by simp only[Zbt,Uh,Uk]),Zhg]
    congr 1;refine YG ⟨λh4=>⟨h1,h2,h3,λx hx=>?_⟩,λh4 k x hx=>h4.2.2.2 x (Ui hx)⟩;obtain ⟨k,hk⟩:=Uu.1 hx;exact h4 k x hk
   ·rw[Ug (by omega),ZM (λhh=>h3 hh.2.2.1)]
  ·rw[Ug (by rw[ZM h2];simp),ZM (λhh=>h2 hh.2.1)]
 ·rw[Ug (by rw[ZM h1];simp),ZM (λhh=>h1 hh.1)]
theorem Zlp (x:Int) (l:List Int) (hl:Len (x::l)):Qe (x::l)=some (l.foldl min x):=by
 unfold Qe;have h4:(x::l).length<=4611686018427387904:=hl;have e1:¬(((x::l).length:Int)<1):=by grind
 have e2:atI (x::l) (0:Int)=some x:=rfl;rw[Ug e1,e2,Bq];refine YV l.length (λk v=>v.1=(l.take k).foldl min x/\v.2.1=(((k+1:Nat)):Int)) _ ⟨by simp,rfl⟩ ?_ ?_
 ·rintro k ⟨m,i,⟨⟩⟩ hk ⟨hm,hi⟩
  simp only at hm hi;subst hm;subst hi;have hx:l[k]?=some l[k]:=Ub hk;have hx1:(x::l)[k+1]?=some l[k]:=by simp
  simp only[XY,Zy,hx1,Bq,show ((k+1:Nat):Int)<((x::l).length:Int) from by simp;omega,Um];refine .inl ⟨_,rfl,?_,?_⟩
  ·rw[Y3 hx,List.foldl_append];rfl
  ·simp only[Ud] at h4
   show Wq (((k+1:Nat):Int)+1)=((k+1+1:Nat):Int);rw[Xa (by omega) (by omega)];omega
 ·rintro ⟨m,i,⟨⟩⟩ ⟨hm,hi⟩
  simp only at hm hi;subst hm;subst hi;rw[Ut];simp only[XY,show ¬(((l.length+1:Nat):Int)<((x::l).length:Int)) from by simp,Uk]
theorem Zg0 (x:Int) (l:List Int):l.foldl min x<0<->x<0\/∃ y∈l,y<0:=by
 induction l generalizing x with
 | nil=>simp
 | cons y r ih =>
  simp only[List.foldl_cons,ih,Uo,exists_eq_or_imp];grind
def Zcm (l:List ZY) (pos:Bool):Prop:=l.length=2/\∀ t∈l,ZbQ t/\(pos=true->∀ v∈KT t,0<=v)
theorem ZbQ.some {t:ZY} (h:ZbQ t):∃ x l,KT t=x::l:=by
 have h1:=h.1.1;have h2:=h.2.1.1;have h3:=h.2.2.1;have:1*1<=(Gv t).length*(Gl t).length:=Nat.mul_le_mul h1 h2;cases hv:KT t with
 | nil=>grind
 | cons x l=>exact ⟨x,l,rfl⟩
theorem ZfE (t:ZY) (pos:Bool) (h:Zsu t):Ql t pos=some (! tr (ZbQ t/\(pos=true->∀ v∈KT t,0<=v))):=by
 unfold Ql;rw[Zjk _ h,Bq];by_cases h1:ZbQ t
 ·rw[Uf (Yc h1)]
  cases pos
  ·rw[Ug (by simp),Yc ⟨h1,λe=>by cases e⟩];rfl
  ·obtain ⟨x,l,hv⟩:=h1.some
   have hlen:=h.2.2;rw[Uf rfl,hv];rw[hv] at hlen;rw[Zlp x l hlen,Bq];congr 1;refine ZbR ?_;rw[Uq,Zg0,UH,<-Bool.not_eq_true,XD];constructor
   ·rintro (hh | ⟨y,hy,hh⟩) ⟨_,hall⟩
    ·have:=hall rfl x (by simp);omega
    grind
   grind
 ·rw[Ug (by rw[ZM h1];simp),ZM (λhh=>h1 hh.1)];rfl
def ZrN (l:List ZY):Prop:=Len l/\∀ t∈l,Zsu t
theorem ZbV (l:List ZY) (pos:Bool) (h:ZrN l):V3 l pos=some (tr (Zcm l pos)):=by
 unfold V3;by_cases h2:l.length=2
 ·rw[Uf (by omega),Y7 h.1 (λt=>! tr (ZbQ t/\(pos=true->∀ v∈KT t,0<=v))) (λt ht=>ZfE t pos (h.2 t ht)),Bq]
  congr 1;refine ZbR ?_;rw[UH,List.any_eq_false,XD];simp only[UH,Bool.not_eq_false,XD,Bool.not_eq_true];exact ⟨λhh=>⟨h2,hh⟩,λhh=>hh.2⟩
 ·rw[Ug (by omega),ZM (λhh=>h2 hh.1)]
theorem Zen {α τ ρ:Type} {l:List α} (pk:Nat->τ) (P:Nat->α->Prop) {step:τ->Option (τ ⊕ ρ)} {bad good:ρ}
  (hs:∀ (k:Nat) (x:α),l[k]?=some x->k<l.length->(∀ (j:Nat) (y:α),j<k->l[j]?=some y->P j y)->(P k x->step (pk k)=some (.inl (pk (k+1))))/\(¬P k x->step (pk k)=some (.inr bad)))
  (hx:ZcN l P->step (pk l.length)=some (.inr good)):Zr step (pk 0)=some (sel (ZcN l P) good bad):=by
 refine YV l.length (λk v=>v=pk k/\∀ (j:Nat) (y:α),j<k->l[j]?=some y->P j y) _ ⟨rfl,λj y hj=>by omega⟩ ?_ ?_
 ·rintro k v hk ⟨rfl,hS⟩
  have hx:l[k]?=some l[k]:=Ub hk;obtain ⟨h1,h2⟩:=hs k _ hx hk hS;by_cases hP:P k l[k]
  ·refine .inl ⟨_,h1 hP,rfl,λj y hj hy=>?_⟩
   by_cases hjk:j<k
   ·exact hS j y hjk hy
   ·have:j=k:=by omega
    subst this;rw[hx] at hy;injection hy with hy;subst hy
    exact hP
  ·right
   rw[h2 hP,YA (λh=>hP (h k _ hx))]
 ·rintro v ⟨rfl,hS⟩
  have hA:ZcN l P:=λk x hk=>hS k x (Ua.1 hk).1 hk;rw[hx hA,YM hA]
theorem Jz {α τ ρ:Type} {l:List α} (pk:Nat->τ) {step:τ->Option (τ ⊕ ρ)} {good:ρ}
  (hs:∀ (k:Nat) (x:α),l[k]?=some x->k<l.length->step (pk k)=some (.inl (pk (k+1)))) (hx:step (pk l.length)=some (.inr good)):Zr step (pk 0)=some good:=by
 have:=Zen (l:=l) pk (λ_ _=>True) (step:=step) (bad:=good) (good:=good) (λk x h1 h2 _=>⟨λ_=>hs k x h1 h2,λh=>absurd trivial h⟩) (λ_=>hx);rw[this,YM (show ZcN l (λ_ _=>True) from λ_ _ _=>trivial)]
theorem Zjv {ρ:Type} (n:Nat) (hn:n<=4611686018427387904) (P:Nat->Prop) {step:Int×Unit->Option ((Int×Unit) ⊕ ρ)} {bad good:ρ}
  (hs:∀ k:Nat,k<n->(P k->step ((k:Int),())=some (.inl (Wq ((k:Int)+1),())))/\(¬P k->step ((k:Int),())=some (.inr bad)))
  (hx:(∀ j,j<n->P j)->step ((n:Int),())=some (.inr good)):Zr step ((0:Int),())=some (sel (∀ j,j<n->P j) good bad):=by
 have:=Zny (ρ:=ρ) 0 n (by omega) hn P (step:=step) (bad:=bad) (good:=good) (λk _ h _=>hs k h) (λh=>hx (λj hj=>h j (by omega) hj));refine (show Zr step ((0:Int),())=_ from this).trans ?_;congr 1;have e:(∀ j,0<=j->j<n->P j)<->(∀ j,j<n->P j):=⟨λh j hj=>h j (by omega) hj,λh j _ hj=>h j hj⟩;rw[propext e]
theorem Yt {t:Ty} {l:List t.den} (h:sm (.sl t) l):Len l:=by
 have h1:(l.length:Int)<=1048576:=h.1;show l.length<=4611686018427387904;omega
theorem Zdp {s:List UInt8} (h:sm .str s):s.length<=4611686018427387904:=by
 have h1:(s.length:Int)<=1048576:=h;omega
theorem ZkF {t:Ty} {l:List t.den} (h:sm (.sl t) l) {x:t.den} (hx:x∈l):sm t x:=h.2 x hx
theorem Zd5 {t:Ty} {l:List t.den} (h:sm (.sl t) l) {k:Nat} {x:t.den} (hx:l[k]?=some x):sm t x:=h.2 x (Ui hx)
theorem Zw {t:Ty} {l:List t.den} (h:sm (.sl t) l):l.length<=1048576:=by
 have h1:(l.length:Int)<=1048576:=h.1;omega
theorem Zos {t:ZY} (h:sm JI t):Zsu t:=⟨Yt (t:=.int .i64) h.1,Yt (t:=.int .i64) h.2.1,Yt (t:=.int .i64) h.2.2.1⟩
theorem ZeA {l:List ZY} (h:sm (.sl JI) l):ZrN l:=⟨Yt h,λt ht=>Zos (ZkF h ht)⟩
theorem Zgi (t:ZY) (h:Zsu t):∃ r,Zat t=some r/\(ZbQ t->r.2=0/\(r.1.1<0<->∃ v∈KT t,v<0))/\(¬ZbQ t->r.2=1):=by
 unfold Zat;rw[ZjM _ h,Bq];by_cases h1:ZbQ t
 ·rw[Uf (Yc h1)]
  obtain ⟨x,l,hv⟩:=h1.some;have h4:(x::l).length<=4611686018427387904:=by rw[<-hv];exact h.2.2
  have e2:atI (KT t) (0:Int)=some x:=by rw[hv];rfl
  rw[e2,Bq];have:=Jz (l:=l) (ρ:=ZC×Int) (λk=>((((k+1:Nat)):Int),(l.take k).foldl min x,(l.take k).foldl max x,())) (step:=λv=>QC t v.1 v.2.1 v.2.2.1) (good:=((l.foldl min x,l.foldl max x,()),0))
   (λk y hy hk=>by
    have hx1:(x::l)[k+1]?=some y:=by simpa using hy
    simp only[Ud] at h4;simp only[QC,hv,Zy,hx1,Bq,show ((k+1:Nat):Int)<((x::l).length:Int) from by simp;omega,Um];rw[Y3 hy,List.foldl_append,List.foldl_append,Xa (by omega) (by omega)];rfl)
   (by
    simp only[QC,hv,Ut,show ¬(((l.length+1:Nat):Int)<((x::l).length:Int)) from by simp,Uk])
  refine ⟨_,this,λ_=>⟨rfl,?_⟩,λhn=>absurd h1 hn⟩;rw[hv];refine (Zg0 x l).trans ?_;simp
 ·rw[Ug (by rw[ZM h1];simp)]
  exact ⟨_,rfl,λhn=>absurd hn h1,λ_=>rfl⟩
theorem Zb5 (l:List ZY) (pos:Bool) (h:ZrN l):Yp l pos=some (tr (Zcm l pos)):=by
 unfold Yp;by_cases h2:l.length=2
 ·rw[Uf (by omega),XJ h.1 (λk t=>ZbQ t/\(pos=true->∀ v∈KT t,0<=v)) (bad:=false) (good:=true)
   (λk t hx hk _=>by
    obtain ⟨r,hr,hr1,hr2⟩:=Zgi t (h.2 t (Ui hx));simp only[Zae,show (k:Int)<2 from by omega,Um,Zy,hx,Bq,hr];by_cases ht:ZbQ t
    ·obtain ⟨e1,e2⟩:=hr1 ht
     rw[Uf e1];cases pos
     ·simp only[UN,Uk]
      exact ⟨λ_=>trivial,λhn=>absurd ⟨ht,λe=>by cases e⟩ hn⟩
     ·simp only[Um]
      refine ⟨λhh=>?_,λhn=>?_⟩
      ·rw[Ug]
       intro hlt;obtain ⟨v,hv,hv0⟩:=e2.1 hlt;have:=hh.2 trivial v hv;omega
      ·rw[Uf]
       apply UQ;intro hlt;refine hn ⟨ht,λ_ v hv=>?_⟩;exact Int.not_lt.1 λhv0=>hlt (e2.2 ⟨v,hv,hv0⟩)
    ·have e1:=hr2 ht
     rw[Ug (by rw[e1];decide)];exact ⟨λhh=>absurd hh.1 ht,λ_=>rfl⟩)
   (λ_=>by simp only[Zae,h2];rfl),Zhg]
  congr 1;refine YG ⟨λhh=>⟨h2,λt ht=>?_⟩,λhh k t hk=>hh.2 t (Ui hk)⟩;obtain ⟨k,hk⟩:=Uu.1 ht;exact hh k t hk
 ·rw[Ug (by omega),ZM (λhh=>h2 hh.1)]
def Zcu (l:List YO):List (List UInt8):=l.map KV
def ZiC (l:List YO):Nat:=l.countP (λp=>Ky p)
def ZlD (n k:Nat) (p:YO):Prop:=(0<=Gx p/\Gx p<=500)/\(k+1=n->GA p=2/\Gx p=0/\Ky p=false)/\(k+1<n->GA p=1)
def ZfI (l:List YO):Prop:=2<=l.length/\l.length<=5/\Qa (Zcu l) l.length/\ZcN l (ZlD l.length)
theorem Zjm (l:List YO) (h:sm (.sl Zlt) l):ZdB l=some (tr (ZfI l)):=by
 unfold ZdB;have hs:=Zw h;have:=Zen (l:=l) (ρ:=Bool) (λk=>((Zcu l).take k,(k:Int),())) (ZlD l.length) (step:=λv=>QV l v.1 v.2.1) (bad:=false) (good:=tr (2<=l.length/\l.length<=5/\Qa (Zcu l) l.length))
  (λk p hx hk _=>by
   have hn:(Zcu l)[k]?=some (KV p):=by simp[Zcu,hx]
   have e1:Wq ((l.length:Int)-1)=((l.length-1:Nat):Int):=by rw[Xa (by omega) (by omega)];omega
   simp only[QV,show (k:Int)<(l.length:Int) from by omega,Um,Zy,hx,Bq,e1];rw[Zt (by simp only[Un,UP,Zcu,List.length_map];omega),Y3 hn,Xa (by omega) (by omega)];unfold ZlD;by_cases hlast:(k:Int)=((l.length-1:Nat):Int)
   ·rw[Uf hlast]
    have hk1:k+1=l.length:=by omega
    constructor
    ·rintro ⟨_,h2,_⟩
     obtain ⟨a,b,c⟩:=h2 hk1;rw[Uf a,Uf b,Ug (by rw[c];simp)];rfl
    ·intro hh
     split
     ·split
      ·split
       ·rfl
       ·rename_i a b c
        exact absurd ⟨by omega,λ_=>⟨a,b,by simpa using c⟩,λh'=>by omega⟩ hh
      ·rfl
     ·rfl
   ·rw[Ug hlast,Qh]
    have hk1:k+1<l.length:=by omega
    simp only[Bq,within_iff];constructor
    ·rintro ⟨h1,_,h3⟩
     rw[Uf (h3 hk1),Uf h1];rfl
    ·intro hh
     split
     ·split
      ·rename_i a b
       exact absurd ⟨b,λh'=>by omega,λ_=>a⟩ hh
      ·rfl
     ·rfl)
  (λhA=>by
   have e0:(Zcu l).take l.length=Zcu l:=by rw[show l.length=(Zcu l).length by simp[Zcu],Ut]
   simp only[QV,Uh,Uk,e0,Qh,Bq,show Vi l=some (l.length:Int) from rfl];have hlen:(Zcu l).length=l.length:=by simp[Zcu]
   by_cases hw:within (l.length:Int) 2 5=true
   ·rw[Uf hw,XU _ (by rw[hlen];omega),Bq,hlen]
    rw[within_iff] at hw;congr 2;exact YG ⟨λhh=>⟨by omega,by omega,hh⟩,λhh=>hh.2.2⟩
   ·rw[Ug hw,ZM]
    intro hh;exact hw ((within_iff _ _ _).2 (by omega)))
 refine (show Zr (λv=>QV l v.1 v.2.1) (([]:List (List UInt8)),(0:Int),())=_ from this).trans ?_;congr 1;refine ZbR ?_;rw[XD];by_cases hA:ZcN l (ZlD l.length)
 ·rw[YM hA,XD]
  exact ⟨λhh=>⟨hh.1,hh.2.1,hh.2.2,hA⟩,λhh=>⟨hh.1,hh.2.1,hh.2.2.1⟩⟩
 ·rw[YA hA]
  exact ⟨λhh=>(by cases hh),λhh=>absurd hh.2.2.2 hA⟩
theorem Zib {n:Nat} (h:n<=1048576) (h1:1<=n):Wq ((n:Int)-1)=((n-1:Nat):Int):=by rw[Xa (by omega) (by omega)];omega
theorem Vn {n:Nat} (h:n<=1048576):Wq ((n:Int)+1)=((n+1:Nat):Int):=by rw[Xa (by omega) (by omega)];omega
theorem ZfT {l:List YO} {k:Nat} {s:List UInt8}:s ∉ (Zcu l).take k<->∀ (j:Nat) (q:YO),j<k->l[j]?=some q->KV q≠s:=by
 constructor
 ·intro h j q hj hq e
  refine h (Uu.2 ⟨j,?_⟩);rw[Uw,Uf hj];simp[Zcu,hq,e]
 ·intro h hm
  obtain ⟨j,hj⟩:=Uu.1 hm;rw[Uw] at hj;split at hj
  ·rename_i hjk
   simp only[Zcu,UZ,Kg] at hj;obtain ⟨q,hq,e⟩:=hj;exact h j q hjk hq e
  ·cases hj
theorem ZjN (c:Zl) (h:sm (.sl Zlt) (Ks c)):ZdO c=some (sel (ZfI (Ks c)) ((ZiC (Ks c):Int),true) ((0:Int),false)):=by
 unfold ZdO;have hs:=Zw h;by_cases h2:((Ks c).length:Int)<2
 ·rw[Uf h2,YA (λhh=>by have:=hh.1;omega)]
 by_cases h5:(5:Int)<((Ks c).length:Int)
 ·rw[Ug h2,Uf h5,YA (λhh=>by have:=hh.2.1;omega)]
 rw[Ug h2,Ug h5];have e1:Wq (((Ks c).length:Int)-1)=(((Ks c).length-1:Nat):Int):=Zib hs (by omega);have:=Zen (l:=Ks c) (ρ:=Int×Bool) (λk=>((((Ks c).take k).countP (λp=>Ky p):Int),(k:Int),()))
  (λk p=>(Vw (KV p)=true/\∀ (j:Nat) (q:YO),j<k->(Ks c)[j]?=some q->KV q≠KV p)/\ZlD (Ks c).length k p) (step:=λv=>Q0 c v.1 v.2.1) (bad:=((0:Int),false)) (good:=((ZiC (Ks c):Int),true))
  (λk p hx hk _=>by
   have hcnt:((Ks c).take k).countP (λp=>Ky p)<=5:=by
    have h1:=List.countP_le_length (p:=λp=>Ky p) (l:=(Ks c).take k);rw[Un] at h1;omega
   have hnext:((Ks c).take (k+1)).countP (λp=>Ky p)=((Ks c).take k).countP (λp=>Ky p)+if Ky p=true then 1 else 0:=by
    rw[Y3 hx,Ki];simp[List.countP_cons]
   have hname:(KV p).length<=4611686018427387904:=Zdp (Zd5 h hx).1;have rest:∀ (v:Int),XT c v (k:Int) p (k:Int)=sel (Vw (KV p)=true/\ZlD (Ks c).length k p) (some (Sum.inr (Sum.inl (if Ky p=true then Wq (v+1) else v,((k+1:Nat):Int),())))) (some (Sum.inr (Sum.inr (0,false)))):=by
    intro v;simp only[XT,Uh,Uk,JD _ hname,QZ,Bq,e1,Vn (show k<=1048576 by omega),within_iff];unfold ZlD;by_cases hn:Vw (KV p)=true
    ·by_cases hcap:0<=Gx p/\Gx p<=500
     ·by_cases hlast:k+1=(Ks c).length
      ·have e2:(k:Int)=(((Ks c).length-1:Nat):Int):=by omega
       have e3:¬((k:Int)<(((Ks c).length-1:Nat):Int)):=by omega
       have e4:¬(k+1<(Ks c).length):=by omega
       rw[Uf hn,Uf hcap,Uf e2];by_cases a:GA p=2
       ·by_cases b:Gx p=0
        ·by_cases d:Ky p=true
         ·rw[Uf a,Uf b,Uf d,YA]
          rintro ⟨_,_,h',_⟩;have:=(h' hlast).2.2;rw[d] at this;cases this
         ·rw[Uf a,Uf b,Ug d,Ug e3,Ug d,YM ⟨hn,hcap,λ_=>⟨a,b,by simpa using d⟩,λh'=>absurd h' e4⟩]
          simp[d]
        ·rw[Uf a,Ug b,YA]
         rintro ⟨_,_,h',_⟩;exact b (h' hlast).2.1
       ·rw[Ug a,YA]
        rintro ⟨_,_,h',_⟩;exact a (h' hlast).1
      ·have e2:¬(k:Int)=(((Ks c).length-1:Nat):Int):=by omega
       have e3:(k:Int)<(((Ks c).length-1:Nat):Int):=by omega
       have e4:k+1<(Ks c).length:=by omega
       rw[Uf hn,Uf hcap,Ug e2,Uf e3];by_cases a:GA p=1
       ·rw[Uf a,YM ⟨hn,hcap,λh'=>absurd h' hlast,λ_=>a⟩]
        by_cases d:Ky p=true
        ·rw[Uf d,Uf d]
        ·rw[Ug d,Ug d]
       ·rw[Ug a,YA]
        rintro ⟨_,_,_,h'⟩;exact a (h' e4)
     ·rw[Uf hn,Ug hcap,YA (λhh=>hcap hh.2.1)]
    ·rw[Ug hn,YA (λhh=>hn hh.1)]
   have inner:∀ (v:Int) (good:(Int×Int×Unit) ⊕ (Int×Bool)),((∀ (j:Nat) (q:YO),j<k->(Ks c)[j]?=some q->KV q≠KV p)->XT c v (k:Int) p (k:Int)=some (.inr good))->
     Zr (λv'=>XT c v (k:Int) p v'.1) ((0:Int),())=some (sel (∀ j,j<k->∀ q,(Ks c)[j]?=some q->KV q≠KV p) good (.inr (0,false))):=by
    intro v good hg;refine Zjv k (by omega) (λj=>∀ q,(Ks c)[j]?=some q->KV q≠KV p) (λj hj=>?_) (λhh=>hg (λj q hj hq=>hh j hj q hq));obtain ⟨q,hq⟩:∃ q,(Ks c)[j]?=some q:=⟨_,Ub (by omega)⟩;simp only[XT,show (j:Int)<(k:Int) from by omega,Um,Zy,hq,Bq];refine ⟨λhh=>by rw[Ug (hh q rfl)],λhh=>?_⟩;rw[Uf];apply UQ;intro hne;exact hh (λq' hq'=>by injection hq' with hq';subst hq';exact hne)
   simp only[Q0,show (k:Int)<((Ks c).length:Int) from by omega,Um,Zy,hx,Bq];constructor
   ·rintro ⟨⟨a,b⟩,d⟩
    rw[inner _ (.inl (((((Ks c).take (k+1)).countP (λp=>Ky p):Nat):Int),((k+1:Nat):Int),())) (λ_=>by
     rw[rest,YM ⟨a,d⟩,hnext];by_cases hc:Ky p=true
     ·rw[Uf hc,Uf hc,Vn (by omega)]
     ·rw[Ug hc,Ug hc];rfl),YM (λj hj q hq=>b j q hj hq)]
   ·intro hh
    rw[inner _ (.inr (0,false)) (λhn=>by
     rw[rest,YA (λh'=>hh ⟨⟨h'.1,hn⟩,h'.2⟩)])]
    by_cases hP:∀ j,j<k->∀ q,(Ks c)[j]?=some q->KV q≠KV p
    ·rw[YM hP]
    ·rw[YA hP])
  (λ_=>by simp only[Q0,Uh,Uk,Ut];rfl)
 refine (show Zr (λv=>Q0 c v.1 v.2.1) ((0:Int),(0:Int),())=_ from this).trans ?_;congr 1;have e:ZcN (Ks c) (λk p=>(Vw (KV p)=true/\∀ (j:Nat) (q:YO),j<k->(Ks c)[j]?=some q->KV q≠KV p)/\ZlD (Ks c).length k p)<->ZfI (Ks c):=by
  constructor
  ·intro hA
   refine ⟨by omega,by omega,λj s hj hs'=>?_,λk p hp=>(hA k p hp).2⟩;simp only[Zcu,UZ,Kg] at hs';obtain ⟨q,hq,rfl⟩:=hs';exact ⟨(hA j q hq).1.1,ZfT.2 (hA j q hq).1.2⟩
  ·intro hh k p hp
   have hk:=(Ua.1 hp).1;have hn:=hh.2.2.1 k (KV p) hk (by simp[Zcu,hp]);exact ⟨⟨hn.1,ZfT.1 hn.2⟩,hh.2.2.2 k p hp⟩
 rw[propext e]
def ZkZ (l:List YO) (i:Int):Bool:=match l[i.toNat]? with
 | some p=>Ky p
 | none=>false
def Zht (c:Zl) (a:ZL):Prop :=
  (0<=KJ a/\KJ a<=((Ks c).length:Int)-2)/\(0<=KO a/\KO a<=((Ks c).length:Int)-1)/\
  ((Kx a=1/\ZkZ (Ks c) (KJ a)=false/\KO a=((Ks c).length:Int)-1/\(1<=KZ a/\KZ a<=3)/\Zcm (KU a) true/\Zcm (K4 a) true)\/
   ((Kx a=2\/Kx a=3)/\ZkZ (Ks c) (KJ a)=true/\KO a=((Ks c).length:Int)-1/\KZ a=0/\Zcm (KU a) true/\Zcm (K4 a) true)\/
   ((Kx a=4\/Kx a=5)/\ZkZ (Ks c) (KJ a)=true/\KO a<((Ks c).length:Int)-1/\ZkZ (Ks c) (KO a)=false/\KZ a=0/\Zcm (KU a) false/\(K4 a).length=0))
theorem Zht.kind {c:Zl} {a:ZL} (h:Zht c a):1<=Kx a/\Kx a<=5:=by
 rcases h.2.2 with h | h | h
 ·have:=h.1;omega
 ·have:=h.1;omega
 ·have:=h.1;omega
theorem YZ {P Q:Prop} {_:Decidable P} {m:Option Bool} (hm:P->m=some (tr Q)):(if P then m else some false)=some (tr (P/\Q)):=by
 by_cases h:P
 ·rw[Uf h,hm h];congr 1;exact YG ⟨λq=>⟨h,q⟩,λq=>q.2⟩
 ·rw[Ug h,ZM (λq=>h q.1)]
theorem Zdd {P Q:Prop} {_:Decidable P} {m:Option Bool} (hm:¬P->m=some (tr Q)):(if P then some false else m)=some (tr (¬P/\Q)):=by
 by_cases h:P
 ·rw[Uf h,ZM (λq=>q.1 h)]
 ·rw[Ug h,hm h];congr 1;exact YG ⟨λq=>⟨h,q⟩,λq=>q.2⟩
theorem J9 {P:Prop} {b:Bool} (h:b=true<->P):some b=some (tr P):=by rw[ZiM h]
theorem ZbS {m:Option Bool} {P Q:Prop} (h:m=some (tr P)) (hpq:P<->Q):m=some (tr Q):=by rw[h,propext hpq]
theorem ZkG {Q:Prop} (h:¬Q):(some false:Option Bool)=some (tr Q):=by rw[ZM h]
theorem Zax {P:Prop} {m:Option Bool} (h:m=some (tr P)):(m.bind λb=>some b)=some (tr P):=by rw[h];rfl
theorem Yw {P Q:Prop} {m m2:Option Bool} (h:m=some (tr P)) (h2:P->m2=some (tr Q)):(m.bind λb=>if b=true then m2 else some false)=some (tr (P/\Q)):=by
 rw[h,Bq];by_cases hp:P
 ·rw[Uf (Yc hp),h2 hp];congr 1;exact YG ⟨λq=>⟨hp,q⟩,λq=>q.2⟩
 ·rw[Ug (by rw[ZM hp];simp),ZM (λq=>hp q.1)]
theorem Zm8 {P Q:Prop} {m m2:Option Bool} (h:m=some (tr P)) (h2:¬P->m2=some (tr Q)):(m.bind λb=>if b=true then some false else m2)=some (tr (¬P/\Q)):=by
 rw[h,Bq];by_cases hp:P
 ·rw[Uf (Yc hp),ZM (λq=>q.1 hp)]
 ·rw[Ug (by rw[ZM hp];simp),h2 hp];congr 1;exact YG ⟨λq=>⟨hp,q⟩,λq=>q.2⟩
theorem QB (n a b:Int):ZX n a b=some (tr (a<=n/\n<=b)):=by rw[QZ];exact J9 (within_iff _ _ _)
theorem YQ (n a b:Int):ZT n a b=some (tr (a<=n/\n<=b)):=by rw[Qh];exact J9 (within_iff _ _ _)
theorem ZpQ {l:List YO} {i:Int} (h0:0<=i) (h1:i<l.length):∃ p,atI l i=some p/\ZkZ l i=Ky p:=by
 obtain ⟨p,h2,h3⟩:=Zic h0 h1;exact ⟨p,h2,by simp[ZkZ,h3]⟩
theorem Zke (c:Zl) (a:ZL) (hp:sm (.sl Zlt) (Ks c)) (hd:sm (.sl JI) (KU a)) (hw:sm (.sl JI) (K4 a)) (h2:2<=(Ks c).length):Zex c a=some (tr (Zht c a)):=by
 unfold Zex;have hs:=Zw hp;have e1:Wq (((Ks c).length:Int)-1)=((Ks c).length:Int)-1:=Xa (by omega) (by omega);have e2:Wq (((Ks c).length:Int)-1-1)=((Ks c).length:Int)-2:=by rw[Xa (by omega) (by omega)];omega
 rw[e1,e2];refine ZbS (Yw (QB _ _ _) (λhF=>Yw (QB _ _ _) (λhT=>?_))) (Q:=Zht c a) (P:=(0<=KJ a/\KJ a<=((Ks c).length:Int)-2)/\(0<=KO a/\KO a<=((Ks c).length:Int)-1)/\Zht c a) ⟨λhh=>hh.2.2,λhh=>⟨hh.1,hh.2.1,hh⟩⟩;obtain ⟨p,hp1,hp2⟩:=ZpQ (l:=Ks c) hF.1 (by omega);rw[hp1,Bq];have hdl:=ZeA hd;have hsl:=ZeA hw;have tt:∀ b,(Yp (KU a) b).bind (λx=>if x=true then (Yp (K4 a) b).bind (λy=>some y) else some false)=some (tr (Zcm (KU a) b/\Zcm (K4 a) b)):=λb=>Yw (Zb5 _ _ hdl) (λ_=>Zax (Zb5 _ _ hsl));have tz:(Yp (KU a) false).bind (λx=>if x=true then some (Decidable.decide (((K4 a).length:Int)=(0:Int))) else some false)=some (tr (Zcm (KU a) false/\(K4 a).length=0)):=Yw (Zb5 _ _ hdl) (λ_=>J9 (by rw[Uq];omega));unfold Zht;rw[hp2];by_cases k1:Kx a=1
 ·simp only[k1,Um]
  refine ZbS (Zdd (λhc=>YZ (λhl=>Yw (QB _ _ _) (λ_=>tt true)))) ?_;grind
 by_cases k2:Kx a=2
 ·simp only[k2,Um,Int.reduceEq,Uk]
  refine ZbS (YZ (λhc=>YZ (λhl=>YZ (λ_=>tt true)))) ?_;grind
 by_cases k3:Kx a=3
 ·simp only[k3,Um,Int.reduceEq,Uk]
  refine ZbS (YZ (λhc=>YZ (λhl=>YZ (λ_=>tt true)))) ?_;grind
 have chk:(if Ky p=true then (if KO a<((Ks c).length:Int)-1 then (atI (Ks c) (KO a)).bind (λx1=>if Ky x1=true then some false else if KZ a=0 then (Yp (KU a) false).bind (λx=>if x=true then some (Decidable.decide (((K4 a).length:Int)=(0:Int))) else some false) else some false) else some false) else some false) =
   some (tr (Ky p=true/\KO a<((Ks c).length:Int)-1/\ZkZ (Ks c) (KO a)=false/\KZ a=0/\Zcm (KU a) false/\(K4 a).length=0)):=by
  refine YZ (λ_=>YZ (λhl=>?_));obtain ⟨q,hq1,hq2⟩:=ZpQ (l:=Ks c) hT.1 (by omega);rw[hq1,Bq,hq2];refine ZbS (Zdd (λ_=>YZ (λ_=>tz))) ?_;simp only[Bool.not_eq_true]
 by_cases k4:Kx a=4
 ·simp only[k4,Um,Int.reduceEq,Uk]
  refine ZbS chk ?_;grind
 by_cases k5:Kx a=5
 ·simp only[k5,Um,Int.reduceEq,Uk]
  refine ZbS chk ?_;grind
 ·simp only[k1,k2,k3,k4,k5,Uk]
  refine ZkG ?_;grind
def Zf2 (l:List YO):Int:=Za9 (λp=>Ky p) l
theorem Zg2 (c:Zl) (h:sm (.sl Zlt) (Ks c)):Zbb c=some (Zf2 (Ks c)):=by
 unfold Zbb;rw[Xy (Yt h) (λp=>Ky p) (λp _=>rfl),Bq];rfl
theorem Zay (c:Zl) (h:sm (.sl Zlt) (Ks c)):VT c=some (((Ks c).length:Int)-1):=by
 have hs:=Zw h;show some (Wq (((Ks c).length:Int)-1))=_;rw[Xa (by omega) (by omega)]
theorem ZcO (c:Zl) (i:Int) (h:sm (.sl Zlt) (Ks c)):Vo c i=some (tr (0<=i/\i<=((Ks c).length:Int)-2)):=by
 have hs:=Zw h;unfold Vo;rw[Zay c h,Bq,Xa (by omega) (by omega)];refine ZbS (Zax (YQ _ _ _)) ?_;omega
def Zqt (c:Zl) (a:ZL):Prop :=
 ((Kx a=4\/Kx a=5)/\KZ a=0/\(K4 a).length=0/\Zcm (KU a) false/\KJ a=Zf2 (Ks c)/\0<=KJ a/\(0<=KO a/\KO a<=((Ks c).length:Int)-2)/\KO a≠KJ a)\/
 (¬(Kx a=4\/Kx a=5)/\Zcm (KU a) true/\Zcm (K4 a) true/\KO a=((Ks c).length:Int)-1/\(0<=KJ a/\KJ a<=((Ks c).length:Int)-2)/\
  ((Kx a=1/\ZkZ (Ks c) (KJ a)=false/\(1<=KZ a/\KZ a<=3))\/((Kx a=2\/Kx a=3)/\ZkZ (Ks c) (KJ a)=true/\KZ a=0)))
theorem Zjo (k:Int):ZdD k=some (tr (k=4\/k=5)):=by
 unfold ZdD;split
 ·rename_i h;rw[Yc (.inl h)]
 ·rename_i h
  exact J9 (by rw[Uq];omega)
theorem Zk7 (c:Zl) (a:ZL) (hp:sm (.sl Zlt) (Ks c)) (hd:sm (.sl JI) (KU a)) (hw:sm (.sl JI) (K4 a)):Zbd c a=some (tr (Zqt c a)):=by
 unfold Zbd;have hdl:=ZeA hd;have hsl:=ZeA hw;rw[Zjo,Bq];by_cases hk:Kx a=4\/Kx a=5
 ·rw[Uf (Yc hk)]
  refine ZbS (YZ (λ_=>YZ (λ_=>Yw (ZbV _ _ hdl) (λ_=>?_)))) (P:=KZ a=0/\((K4 a).length:Int)=0/\Zcm (KU a) false/\(KJ a=Zf2 (Ks c)/\0<=KJ a/\(0<=KO a/\KO a<=((Ks c).length:Int)-2)/\KO a≠KJ a)) ?_
  ·rw[Zg2 c hp,Bq]
   refine YZ (λ_=>YZ (λ_=>Yw (ZcO c _ hp) (λ_=>J9 ?_)));rw[UH,decide_eq_false_iff_not]
  ·unfold Zqt
   constructor
   ·rintro ⟨x1,x2,x3,x4⟩
    exact .inl ⟨hk,x1,by omega,x3,x4⟩
   ·rintro (⟨_,x1,x2,x3,x4⟩ | ⟨x,_⟩)
    ·exact ⟨x1,by omega,x3,x4⟩
    ·exact absurd hk x
 ·rw[Ug (by rw[ZM hk];simp)]
  refine ZbS (Yw (ZbV _ _ hdl) (λ_=>Yw (ZbV _ _ hsl) (λ_=>?_))) (P:=Zcm (KU a) true/\Zcm (K4 a) true/\(KO a=((Ks c).length:Int)-1/\(0<=KJ a/\KJ a<=((Ks c).length:Int)-2)/\
   ((Kx a=1/\ZkZ (Ks c) (KJ a)=false/\(1<=KZ a/\KZ a<=3))\/((Kx a=2\/Kx a=3)/\ZkZ (Ks c) (KJ a)=true/\KZ a=0)))) ?_
  ·rw[Zay c hp,Bq]
   refine YZ (λ_=>Yw (ZcO c _ hp) (λhF=>?_));obtain ⟨p,hp1,hp2⟩:=ZpQ (l:=Ks c) hF.1 (by omega);rw[hp1,hp2];simp only[Bq];by_cases k1:Kx a=1
   ·simp only[k1,Um]
    refine ZbS (Zdd (λ_=>Zax (YQ _ _ _))) ?_;grind
   by_cases k2:Kx a=2
   ·simp only[k2,Um,Int.reduceEq,Uk]
    refine ZbS (YZ (λ_=>J9 (Kj))) ?_;grind
   by_cases k3:Kx a=3
   ·simp only[k3,Um,Int.reduceEq,Uk]
    refine ZbS (YZ (λ_=>J9 (Kj))) ?_;grind
   ·simp only[k1,k2,k3,Uk]
    refine ZkG ?_;grind
  ·unfold Zqt
   constructor
   ·intro x;exact .inr ⟨hk,x⟩
   ·rintro (⟨x,_⟩ | ⟨_,x⟩)
    ·exact absurd x hk
    ·exact x
def Zdn (o a:ZL):Prop:=Kx o=Kx a/\KJ o=KJ a/\KO o=KO a
def Apart (l:List ZL) (k:Nat) (a:ZL):Prop:=∀ (j:Nat) (o:ZL),j<k->l[j]?=some o->¬Zdn o a
structure Zkk (c:Zl):Prop where
 name:(Gf c).length<=4611686018427387904
 pins:sm (.sl Zlt) (Ks c)
 arcs:sm (.sl ZkI) (KD c)
 truth:sm (.sl (.int .i64)) (KK c)
theorem ZrI {c:Zl} (h:sm Zdq c):Zkk c:=⟨Zdp h.1,h.2.2.1,h.2.2.2.1,h.2.2.2.2.1⟩
theorem Zs3 {a:ZL} (h:sm ZkI a):sm (.sl JI) (KU a)/\sm (.sl JI) (K4 a):=⟨h.2.2.2.2.1,h.2.2.2.2.2.1⟩
theorem Zg3 (o a:ZL):Xm o a=some (tr (Zdn o a)):=by
 unfold Xm Zdn;exact YZ (λ_=>YZ (λ_=>J9 Kj))
theorem Zjl (c:Zl) (h:Zkk c):JQ c=some (tr ((KD c).length<=8/\ZcN (KD c) (λk a=>Zqt c a/\Apart (KD c) k a))):=by
 unfold JQ;have hs:=Zw h.arcs;rw[XJ (Yt h.arcs) (λk a=>Zqt c a/\Apart (KD c) k a) (bad:=false) (good:=decide ((KD c).length<=8))
  (λk a hx hk _=>by
   obtain ⟨h1,h2⟩:=Zs3 (Zd5 h.arcs hx);simp only[VD,show (k:Int)<((KD c).length:Int) from by omega,Um,Zy,hx,Bq,Zk7 c a h.pins h1 h2];by_cases hA:Zqt c a
   ·rw[Uf (Yc hA),Zt (by omega),Zt (by omega)]
    simp only[Int.toNat_natCast,Int.toNat_zero,Ke,Nat.sub_zero];rw[Xb (by show ((KD c).take k).length<=4611686018427387904;grind) (λo=>tr (Zdn o a)) (λo _=>Zg3 o a),Bq];have e:((KD c).take k).any (λo=>tr (Zdn o a))=true<->¬Apart (KD c) k a:=by
     rw[List.any_eq_true];constructor
     ·rintro ⟨o,ho,hs⟩ hap
      obtain ⟨j,hj⟩:=Uu.1 ho;rw[Uw] at hj;split at hj
      ·rename_i hjk;exact hap j o hjk hj ((XD _).1 hs)
      ·cases hj
     ·intro hn
      apply UQ;intro hno;refine hn (λj o hj ho hs=>hno ⟨o,?_,Yc hs⟩);exact Uu.2 ⟨j,by grind⟩
    grind
   ·rw[Ug (by rw[ZM hA];simp)]
    grind)
  (λ_=>by
   simp only[VD,Uh,Uk];congr 2;grind)]
 congr 1;refine ZbR ?_;rw[XD];by_cases hA:ZcN (KD c) (λk a=>Zqt c a/\Apart (KD c) k a)
 ·rw[YM hA,Uq];grind
 ·rw[YA hA];grind
def Zly (c:Zl) (k:Int):Prop:=∃ a∈KD c,Kx a=k
theorem ZbX (c:Zl) (k:Int) (h:Zkk c):Qc c k=some (tr (Zly c k)):=by
 unfold Qc;rw[Xq (Yt h.arcs) (λa=>decide (Kx a=k)) (λa _=>rfl),Bq];refine J9 ?_;rw[List.any_eq_true];simp only[Uq,Zly]
def Zds (c:Zl):Prop :=
 (Gb c=1/\ZiC (Ks c)=0/\(KK c).length=2 ^ ((Ks c).length-1)/\ZeO (KK c) 0 1)\/
 (Gb c=2/\ZiC (Ks c)=1/\(KK c).length=0/\¬Zly c 1/\(Zly c 2<->¬Zly c 3))\/
 (Gb c=3/\ZiC (Ks c)=1/\(KK c).length=0/\Zly c 1/\Zly c 2/\¬Zly c 3)
theorem ZpU {n:Nat} (h:n<=4):(2:Nat) ^ n<=16:=by
 calc (2:Nat) ^ n<=2 ^ 4:=Nat.pow_le_pow_right (by omega) h
  _=16:=rfl
theorem ZsF {m:Nat} (h:m<=4):Wq ((1:Int)*(2:Int) ^ min m (IntKind.bits IntKind.i64))=((2 ^ m:Nat):Int):=by
 have hb:min m (IntKind.bits IntKind.i64)=m:=Nat.min_eq_left (by show m<=64;omega);have e:(1:Int)*(2:Int) ^ m=((2 ^ m:Nat):Int):=by simp
 rw[hb,e];have h16:=ZpU h;clear hb e;generalize 2 ^ m=g at h16 ⊢;rw[Xa (by omega) (by omega)]
theorem ZiA (c:Zl) (h:Zkk c) (hp:ZfI (Ks c)):Ja c=some (tr (Zds c)):=by
 unfold Ja;have h2:=hp.1;have h5:=hp.2.1;refine (show Zr (λv=>Y5 c v.1 v.2.1) ((0:Int),(0:Int),())=_ from Jz (l:=Ks c) (ρ:=Bool) (λk=>((((Ks c).take k).countP (λp=>Ky p):Int),(k:Int),())) (step:=λv=>Y5 c v.1 v.2.1)
  (λk p hx hk=>by
   have hcnt:((Ks c).take k).countP (λp=>Ky p)<=5:=by
    have h1:=List.countP_le_length (p:=λp=>Ky p) (l:=(Ks c).take k);grind
   have hnext:((Ks c).take (k+1)).countP (λp=>Ky p)=((Ks c).take k).countP (λp=>Ky p)+if Ky p=true then 1 else 0:=by
    rw[Y3 hx,Ki];grind
   simp only[Y5,show (k:Int)<((Ks c).length:Int) from by omega,Um,Zy,hx,Bq,hnext];by_cases hc:Ky p=true
   ·rw[Uf hc,Uf hc,Vn (by omega),Vn (by omega)]
   ·rw[Ug hc,Ug hc,Vn (by omega)];rfl)
  ?_)
 have hout:=Zay c h.pins;simp only[Y5,Uh,Uk,Ut,hout,Bq,show (((Ks c).length:Int)-1).toNat=(Ks c).length-1 from by omega,ZsF (show (Ks c).length-1<=4 by omega)];have e00:((Ks c).countP (λp=>Ky p):Int)=0<->ZiC (Ks c)=0:=by unfold ZiC;omega
 have e01:((Ks c).countP (λp=>Ky p):Int)=1<->ZiC (Ks c)=1:=by unfold ZiC;omega
 unfold Zds;by_cases k1:Gb c=1
 ·simp only[k1,Um]
  by_cases hc:ZiC (Ks c)=0
  ·rw[Uf (e00.2 hc),Zt (by omega)]
   by_cases ht:(KK c).length=2 ^ ((Ks c).length-1)
   ·rw[Uf (by rw[ht]),JX _ _ _ (Yt h.truth),Bq]
    congr 2;refine (ZiM ?_).symm;rw[Zgq];grind
   ·rw[Ug (by omega),ZM (by grind)]
  ·rw[Ug (λhh=>hc (e00.1 hh)),ZM (by grind)]
 by_cases k2:Gb c=2
 ·simp only[k2,Um,Int.reduceEq,Uk]
  by_cases hc:ZiC (Ks c)=1
  ·rw[Uf (e01.2 hc)]
   by_cases ht:(KK c).length=0
   ·rw[Uf (by omega),ZbX c 1 h,Bq]
    by_cases h1:Zly c 1
    ·rw[Uf (Yc h1),ZM (by grind)]
    ·rw[Ug (by rw[ZM h1];simp),ZbX c 2 h,ZbX c 3 h]
     simp only[Bq];congr 2;refine (ZiM ?_).symm;by_cases a:Zly c 2<;>by_cases b:Zly c 3<;>simp only[Yc,ZM,a,b,not_false_eq_true]<;>grind
   ·rw[Ug (by omega),ZM (by grind)]
  ·rw[Ug (λhh=>hc (e01.1 hh)),ZM (by grind)]
 by_cases k3:Gb c=3
 ·simp only[k3,Um,Int.reduceEq,Uk]
  by_cases hc:ZiC (Ks c)=1
  ·rw[Uf (e01.2 hc)]
   by_cases ht:(KK c).length=0
   ·rw[Uf (by omega),ZbX c 1 h,Bq]
    by_cases h1:Zly c 1
    ·rw[Uf (Yc h1),ZbX c 2 h,Bq]
     by_cases h2:Zly c 2
     ·rw[Uf (Yc h2),ZbX c 3 h,Bq]
      congr 2;refine (ZiM ?_).symm;rw[UH,<-Bool.not_eq_true,XD];grind
     ·rw[Ug (by rw[ZM h2];simp),ZM (by grind)]
    ·rw[Ug (by rw[ZM h1];simp),ZM (by grind)]
   ·rw[Ug (by omega),ZM (by grind)]
  ·rw[Ug (λhh=>hc (e01.1 hh)),ZM (by grind)]
 ·simp only[k1,k2,k3,Uk]
  rw[ZM (by grind)]
def ZsC (c:Zl):Prop:=Vw (Gf c)=true/\ZfI (Ks c)/\((KD c).length<=8/\ZcN (KD c) (λk a=>Zqt c a/\Apart (KD c) k a))/\(0<=GF c/\GF c<=100000)/\(0<=GG c/\GG c<=100000)/\Zds c
def Zgm (c:Zl):Prop:=Vw (Gf c)=true/\ZfI (Ks c)/\((KD c).length<=8/\ZcN (KD c) (λk a=>Zht c a/\Apart (KD c) k a))/\(0<=GF c/\GF c<=100000)/\(0<=GG c/\GG c<=100000)/\Zds c
theorem Zq8 {l:List YO} {i j:Nat} {p q:YO} (hij:i<j) (hp:l[i]?=some p) (hq:l[j]?=some q) (cp:Ky p=true) (cq:Ky q=true):2<=ZiC l:=by
 unfold ZiC;have e:l.countP (λp=>Ky p)=(l.take j).countP (λp=>Ky p)+(l.drop j).countP (λp=>Ky p):=by rw[<-Ki,List.take_append_drop]
 have h1:0<(l.take j).countP (λp=>Ky p):=List.countP_pos_iff.2 ⟨p,Uu.2 ⟨i,by grind⟩,cp⟩;have h2:0<(l.drop j).countP (λp=>Ky p):=List.countP_pos_iff.2 ⟨q,Uu.2 ⟨0,by grind⟩,cq⟩;omega
theorem Zkp {l:List YO} (h:ZiC l<=1) {i:Int} (h0:0<=i):ZkZ l i=true<->i=Zf2 l:=by
 unfold Zf2 Za9 ZkZ;constructor
 ·intro hc
  split at hc
  ·rename_i p hp
   split
   ·rename_i j hj
    obtain ⟨hj1,hj2,hj3⟩:=U5.1 hj;have hjg:l[j]?=some l[j]:=Ub hj1;rcases Nat.lt_trichotomy i.toNat j with hlt | heq | hlt
    ·grind
    ·omega
    ·have:=Zq8 hlt hjg hp hj2 hc;omega
   grind
  ·cases hc
 ·intro hi
  split at hi
  ·rename_i j hj
   obtain ⟨hj1,hj2,hj3⟩:=U5.1 hj;grind
  ·omega
theorem ZnZ {l:List YO} (h:ZfI l):ZkZ l ((l.length:Int)-1)=false:=by
 have h2:=h.1;have hp:l[l.length-1]?=some l[l.length-1]:=Ub (by omega);have:=((h.2.2.2 _ _ hp).2.1 (by omega)).2.2;unfold ZkZ;rw[show ((l.length:Int)-1).toNat=l.length-1 by omega,hp];exact this
theorem ZoI {c:Zl} (hp:ZfI (Ks c)) (hk:ZiC (Ks c)<=1) (a:ZL):Zqt c a<->Zht c a:=by
 have h2:=hp.1;have hF:0<=KJ a->(ZkZ (Ks c) (KJ a)=true<->KJ a=Zf2 (Ks c)):=λh=>Zkp hk h;have hT:0<=KO a->(ZkZ (Ks c) (KO a)=true<->KO a=Zf2 (Ks c)):=λh=>Zkp hk h;have hlast:=ZnZ hp;have hfr:∀ i,ZkZ (Ks c) i=true->i<((Ks c).length:Int):=by
  intro i hi;unfold ZkZ at hi;grind
 unfold Zqt Zht;grind
theorem Zds.ZiC {c:Zl} (h:Zds c):ZiC (Ks c)<=1:=by
 rcases h with h | h | h
 all_goals grind
theorem ZqB (c:Zl):ZsC c<->Zgm c:=by
 unfold ZsC Zgm;constructor
 ·rintro ⟨a,b,⟨c1,d⟩,e,f,g⟩
  exact ⟨a,b,⟨c1,λk x hx=>⟨(ZoI b g.ZiC x).1 (d k x hx).1,(d k x hx).2⟩⟩,e,f,g⟩
 ·rintro ⟨a,b,⟨c1,d⟩,e,f,g⟩
  exact ⟨a,b,⟨c1,λk x hx=>⟨(ZoI b g.ZiC x).2 (d k x hx).1,(d k x hx).2⟩⟩,e,f,g⟩
theorem Zj4 (c:Zl) (h:sm Zdq c):Zeh c=some (tr (Zgm c)):=by
 have hc:=ZrI h;unfold Zeh;refine ZbS (Yw (by rw[ZdT];exact J9 Iff.rfl) (λ_=>Yw (Zjm _ hc.pins) (λhp=>Yw (Zjl c hc) (λ_=>Yw (YQ _ _ _) (λ_=>Yw (YQ _ _ _) (λ_=>Zax (ZiA c hc hp))))))) ?_;exact (ZqB c)
def ZcI (l:List ZL):List Int:=(List.range 6).map (λ(j:Nat)=>((l.countP (λa=>decide (Kx a=(j:Int))):Nat):Int))
theorem ZaE (l:List ZL) {j:Nat} (h:j<6):(ZcI l)[j]?=some ((l.countP (λa=>decide (Kx a=(j:Int))):Nat):Int):=by
 simp[ZcI,List.getElem?_range h]
theorem ZiI (c:Zl) (h:Zkk c) (hk:∀ a∈KD c,1<=Kx a/\Kx a<=5):Zc1 c=some (ZcI (KD c)):=by
 unfold Zc1;have hs:=Zw h.arcs;have h0:List.replicate (Int.toNat (6:Int)) (0:Int)=ZcI ((KD c).take 0):=by simp[ZcI];decide
 rw[h0];refine Jz (l:=KD c) (ρ:=List Int) (λk=>((k:Int),ZcI ((KD c).take k),())) (step:=λv=>VN c v.1 v.2.1)
  (λk a hx hlt=>?_) (by simp only[VN,Uh,Uk,Ut])
 obtain ⟨k1,k5⟩:=hk a (Ui hx);have hkn:Kx a=(((Kx a).toNat:Nat):Int):=by omega
 have hcnt:∀ j:Nat,((KD c).take k).countP (λa=>decide (Kx a=(j:Int)))<=1048576:=by
  intro j;have h1:=List.countP_le_length (p:=λa=>decide (Kx a=(j:Int))) (l:=(KD c).take k);rw[Un] at h1;omega
 simp only[VN,show (k:Int)<((KD c).length:Int) from by omega,Um,Zy,hx,Bq];rw[Za5 (by omega) (ZaE _ (show (Kx a).toNat<6 by omega)),Bq,Vn (hcnt _),Vn (by omega)];congr 3;rw[Prod.mk.injEq];refine ⟨?_,rfl⟩;apply UV;intro j;by_cases hj:(Kx a).toNat=j
 ·subst hj
  rw[Uz (by simp[ZcI];omega),ZaE _ (by omega),Y3 hx,Ki];congr 2;rw[List.countP_cons,List.countP_nil];simp[<-hkn]
 ·rw[Ux hj]
  by_cases h6:j<6
  ·rw[ZaE _ h6,ZaE _ h6,Y3 hx,Ki]
   congr 2;rw[List.countP_cons,List.countP_nil];have:¬Kx a=(j:Int):=by omega
   simp[this]
  ·rw[US (by simp[ZcI];omega),US (by simp[ZcI];omega)]
theorem Zi5 (c:Zl) (j:Nat):0<(KD c).countP (λa=>decide (Kx a=(j:Int)))<->Zly c j:=by
 rw[List.countP_pos_iff];simp only[Uq,Zly]
theorem Zh5 (c:Zl) (h:Zkk c) (hp:ZfI (Ks c)) (hk1:Gb c=1) :
  Zr (λv=>J4 c ((ZiC (Ks c):Int),true) v.1) ((0:Int),())=some (.inr (tr (Zds c))):=by
 have h2:=hp.1;have h5:=hp.2.1;have hs:=Zw h.truth;have e1:Wq (((Ks c).length:Int)-1)=((Ks c).length:Int)-1:=Xa (by omega) (by omega);have e2:IntKind.u64.wrap (((Ks c).length:Int)-1)=((Ks c).length:Int)-1:=IntWalk.u64_in _ (by omega);rw[XJ (Yt h.truth) (λk x=>0<=x/\x<=1) (bad:=.inr false) (good:=.inr (tr (ZiC (Ks c)=0/\(KK c).length=2 ^ ((Ks c).length-1))))
  (λk x hx hk _=>by
   simp only[J4,show (k:Int)<((KK c).length:Int) from by omega,Um,Zy,hx,Bq,QZ,within_iff];exact ⟨λhh=>by rw[Uf hh],λhh=>by rw[Ug hh]⟩)
  (λ_=>by
   simp only[J4,Uh,Uk,e1,e2];by_cases hc:ZiC (Ks c)=0
   ·rw[Uf (by omega),Zt (by omega),show (((Ks c).length:Int)-1).toNat=(Ks c).length-1 by omega,ZsF (by omega)]
    congr 2;congr 1;refine (ZiM ?_).symm;rw[Uq];constructor
    ·intro hh;exact ⟨hc,by omega⟩
    ·intro hh;rw[hh.2]
   ·rw[Ug (by omega),ZM (λhh=>hc hh.1)])]
 congr 1;by_cases hA:ZcN (KK c) (λk x=>0<=x/\x<=1)
 ·rw[YM hA]
  congr 1;refine YG ?_;have hAll:ZeO (KK c) 0 1:=λx hx=>by
   obtain ⟨k,hk⟩:=Uu.1 hx;exact hA k x hk
  unfold Zds;grind
 ·rw[YA hA,ZM]
  intro hh;rcases hh with hh | hh | hh
  ·exact hA (λk x hk=>hh.2.2.2 x (Ui hk))
  ·have:=hh.1;omega
  ·have:=hh.1;omega
theorem Zkc (c:Zl) (hsm:sm Zdq c):Zev c=some (tr (Zgm c)):=by
  have h:=ZrI hsm;have hs:=Zw h.arcs;unfold Zev;rw[ZjN c h.pins,Bq];by_cases hp':¬ZfI (Ks c)
  · rw[YA hp',ZM (λhh=>hp' hh.2.1)];rfl
  have hp:=Classical.not_not.1 hp';rw[YM hp];simp only[Um];refine ZbS (Yw (P:=Vw (Gf c)=true) (by rw[JD _ h.name];exact J9 Iff.rfl) (λhn=>Zdd (λh8=>Yw (QB _ _ _) (λhl=>Yw (QB _ _ _) (λhe=>?_))))) (P:=Vw (Gf c)=true/\¬((8:Int)<((KD c).length:Int))/\(0<=GF c/\GF c<=100000)/\(0<=GG c/\GG c<=100000)/\(ZcN (KD c) (λk a=>Zht c a/\Apart (KD c) k a)/\Zds c)) ?_
  · rw[XJ (Yt h.arcs) (λk a=>Zht c a/\Apart (KD c) k a) (bad:=false) (good:=tr (Zds c))
      (λk a hx hk _=>by
        obtain ⟨h1,h2⟩:=Zs3 (Zd5 h.arcs hx);simp only[Zb2,show (k:Int)<((KD c).length:Int) from by omega,Um,Zy,hx,Bq,Zke c a h.pins h1 h2 hp.1];have inner:Zr (λv=>J3 c (k:Int) a v.1) ((0:Int),())=some (sel (∀ j,j<k->∀ o,(KD c)[j]?=some o->¬Zdn o a) (.inl (Wq ((k:Int)+1),())) (.inr false)):=by
          refine Zjv k (by omega) (λj=>∀ o,(KD c)[j]?=some o->¬Zdn o a) (λj hj=>?_) (λ_=>by simp only[J3,Uh,Uk]);obtain ⟨o,ho⟩:∃ o,(KD c)[j]?=some o:=⟨_,Ub (by omega)⟩;simp only[J3,show (j:Int)<(k:Int) from by omega,Um,Zy,ho,Bq];have e:(∀ o',some o=some o'->¬Zdn o' a)<->¬Zdn o a:=⟨λhh=>hh o rfl,λhh o' ho'=>by injection ho' with ho';subst ho';exact hh⟩
          rw[e];unfold Zdn;constructor
          · intro hh
            split
            · split
              · split
                · exact absurd ⟨‹_›,‹_›,‹_›⟩ hh
                · rfl
              · rfl
            · rfl
          · intro hh
            have hh:=Classical.not_not.1 hh;rw[Uf hh.1,Uf hh.2.1,Uf hh.2.2]
        have eap:Apart (KD c) k a<->(∀ j,j<k->∀ o,(KD c)[j]?=some o->¬Zdn o a):=⟨λhh j hj o ho=>hh j o hj ho,λhh j o hj ho=>hh j hj o ho⟩;by_cases hA:Zht c a
        · rw[Uf (Yc hA),inner]
          constructor
          · intro hh;rw[YM (eap.1 hh.2)]
          · intro hh;rw[YA (λh'=>hh ⟨hA,eap.2 h'⟩)]
        · rw[Ug (by rw[ZM hA];simp)]
          exact ⟨λhh=>absurd hh.1 hA,λ_=>rfl⟩)
      (λhA=>by
        have hkinds:=ZiI c h (λa ha=>by
          obtain ⟨k,hk⟩:=Uu.1 ha;exact (hA k a hk).1.kind)
        have g1:atI (ZcI (KD c)) (1:Int)=some (((KD c).countP (λa=>decide (Kx a=((1:Nat):Int))):Nat):Int):=Za5 (by omega) (ZaE _ (by omega));have g2:atI (ZcI (KD c)) (2:Int)=some (((KD c).countP (λa=>decide (Kx a=((2:Nat):Int))):Nat):Int):=Za5 (by omega) (ZaE _ (by omega));have g3:atI (ZcI (KD c)) (3:Int)=some (((KD c).countP (λa=>decide (Kx a=((3:Nat):Int))):Nat):Int):=Za5 (by omega) (ZaE _ (by omega));have c1:=Zi5 c 1;have c2:=Zi5 c 2;have c3:=Zi5 c 3;simp only[Zb2,Uh,Uk,hkinds,Bq,g1,g2,g3];generalize (KD c).countP (λa=>decide (Kx a=((1:Nat):Int)))=n1 at c1 ⊢;generalize (KD c).countP (λa=>decide (Kx a=((2:Nat):Int)))=n2 at c2 ⊢;generalize (KD c).countP (λa=>decide (Kx a=((3:Nat):Int)))=n3 at c3 ⊢;by_cases k1:Gb c=1
        · rw[Uf k1]
          exact Zh5 c h hp k1
        rw[Ug k1];have hgoal:∀ (b:Bool),(b=true<->Zds c)->(some (.inr b):Option ((Int×Unit) ⊕ Bool))=some (.inr (tr (Zds c))):=λb hb=>by rw[ZiM hb]
        have c1':Zly c 1<->0<n1:=c1.symm;have c2':Zly c 2<->0<n2:=c2.symm;have c3':Zly c 3<->0<n3:=c3.symm;have hKO:Zds c<->(Gb c=2/\ZiC (Ks c)=1/\(KK c).length=0/\¬0<n1/\(0<n2<->¬0<n3))\/(Gb c=3/\ZiC (Ks c)=1/\(KK c).length=0/\0<n1/\0<n2/\¬0<n3):=by
          unfold Zds;rw[c1',c2',c3'];constructor
          · rintro (hh | hh | hh)
            · exact absurd hh.1 k1
            · exact .inl hh
            · exact .inr hh
          · rintro (hh | hh)
            · exact .inr (.inl hh)
            · exact .inr (.inr hh)
        by_cases k2:Gb c=2
        · rw[Uf k2]
          split
          · split
            · split
              · rename_i a b d
                refine hgoal _ ?_;rw[hKO];simp only[UU,decide_eq_decide] at d;constructor
                · intro hh;cases hh
                · intro hh;omega
              · rename_i a b d
                refine hgoal _ ?_;rw[hKO,Uq];simp only[UU,decide_eq_decide] at d;omega
            · refine hgoal _ ?_
              rw[hKO];constructor
              · intro hh;cases hh
              · intro hh;omega
          · refine hgoal _ ?_
            rw[hKO];constructor
            · intro hh;cases hh
            · intro hh;omega
        rw[Ug k2];repeat' split
        all_goals
          refine hgoal _ ?_;rw[hKO];first
            | (rw[Uq];omega)
            | (constructor
               · intro hh;cases hh
               · intro hh;omega))]
    congr 1;by_cases hA:ZcN (KD c) (λk a=>Zht c a/\Apart (KD c) k a)
    · rw[YM hA];exact YG ⟨λx=>⟨hA,x⟩,λx=>x.2⟩
    · rw[YA hA,ZM (λx=>hA x.1)]
  · unfold Zgm
    constructor
    · rintro ⟨a,b,c1,d,e,f⟩
      exact ⟨a,hp,⟨by omega,e⟩,c1,d,f⟩
    · rintro ⟨a,b,⟨c1,d⟩,e,f,g⟩
      exact ⟨a,by omega,e,f,d,g⟩
theorem ZnA {α:Type} {l:List α} {k:Nat} {s:α}:s ∉ l.take k<->∀ (j:Nat) (q:α),j<k->l[j]?=some q->q≠s:=by
 constructor
 ·intro h j q hj hq e
  refine h (Uu.2 ⟨j,?_⟩);rw[Uw,Uf hj,hq,e]
 ·intro h hm
  obtain ⟨j,hj⟩:=Uu.1 hm;rw[Uw] at hj;split at hj
  ·rename_i hjk;exact h j s hjk hj rfl
  ·cases hj
theorem Zjw {α:Type} (f:α->List UInt8) (l:List α):Qa (l.map f) l.length<->ZcN l (λk x=>Vw (f x)=true/\∀ (j:Nat) (q:α),j<k->l[j]?=some q->f q≠f x):=by
 constructor
 ·intro h k x hx
  have hk:=(Ua.1 hx).1;obtain ⟨h1,h2⟩:=h k (f x) hk (by simp[hx]);refine ⟨h1,λj q hj hq=>ZnA.1 h2 j (f q) hj (by simp[hq])⟩
 ·intro h j s hj hs
  simp only[UZ,Kg] at hs;obtain ⟨x,hx,rfl⟩:=hs;obtain ⟨h1,h2⟩:=h j x hx;refine ⟨h1,ZnA.2 (λi q hi hq=>?_)⟩;simp only[UZ,Kg] at hq;obtain ⟨y,hy,rfl⟩:=hq;exact h2 i y hi hy
def Zd1 (l:List Zl):List (List UInt8):=l.map Gf
def Zmq (a:Zz):Prop:=(KE a).length<=8/\(∀ c∈KE a,Zgm c)/\Qa (Zd1 (KE a)) (KE a).length
theorem Zrp {a:Zz} (h:sm Qf a):sm (.sl Zdq) (KE a):=h.1
theorem QL {α:Type} {l:List α} {P:α->Prop}:ZcN l (λ_ x=>P x)<->∀ x∈l,P x:=by
 constructor
 ·intro h x hx
  obtain ⟨k,hk⟩:=Uu.1 hx;exact h k x hk
 ·intro h k x hk
  exact h x (Ui hk)
theorem Zbp {P Q:Prop}:sel P (tr Q) false=tr (P/\Q):=by
 by_cases h:P
 ·rw[YM h];exact YG ⟨λq=>⟨h,q⟩,λq=>q.2⟩
 ·rw[YA h,ZM (λq=>h q.1)]
theorem ZhN (a:Zz) (h:sm Qf a):Zcc a=some (tr (Zmq a)):=by
 have hc:=Zrp h;have hs:=Zw hc;unfold Zcc;have:=Zen (l:=KE a) (ρ:=Bool) (λk=>((Zd1 (KE a)).take k,(k:Int),())) (λ_ c=>Zgm c) (step:=λv=>X3 a v.1 v.2.1) (bad:=false) (good:=tr ((KE a).length<=8/\Qa (Zd1 (KE a)) (KE a).length))
  (λk c hx hk _=>by
   have hn:(Zd1 (KE a))[k]?=some (Gf c):=by simp[Zd1,hx]
   simp only[X3,show (k:Int)<((KE a).length:Int) from by omega,Um,Zy,hx,Bq,Zj4 c (Zd5 hc hx)];rw[Zt (by simp only[Un,UP,Zd1,List.length_map];omega),Y3 hn,Vn (by omega)];constructor
   ·intro hh;rw[Uf (Yc hh)]
   ·intro hh;rw[Ug (by rw[ZM hh];simp)])
  (λhA=>by
   have e0:(Zd1 (KE a)).take (KE a).length=Zd1 (KE a):=by rw[show (KE a).length=(Zd1 (KE a)).length by simp[Zd1],Ut]
   have hlen:(Zd1 (KE a)).length=(KE a).length:=by simp[Zd1]
   simp only[X3,Uh,Uk,e0];by_cases h8:(KE a).length<=8
   ·rw[Uf (by omega),XU _ (by rw[hlen];omega),Bq,hlen]
    congr 2;exact YG ⟨λq=>⟨h8,q⟩,λq=>q.2⟩
   ·rw[Ug (by omega),ZM (λq=>h8 q.1)])
 refine (show Zr (λv=>X3 a v.1 v.2.1) (([]:List (List UInt8)),(0:Int),())=_ from this).trans ?_;rw[Zbp];congr 1;refine YG ?_;rw[QL];exact ⟨λq=>⟨q.2.1,q.1,q.2.2⟩,λq=>⟨q.2.1,q.1,q.2.2⟩⟩
theorem Zf7 {α ρ:Type} {f:α->List UInt8} {l:List α} {x:α} {k:Nat} (hk:k<=1048576) (hkl:k<=l.length) {step:Int×Unit->Option ((Int×Unit) ⊕ ρ)} {bad good:ρ}
  (hs:∀ (j:Nat) (y:α),j<k->l[j]?=some y->step ((j:Int),())=some (if f y=f x then .inr bad else .inl (Wq ((j:Int)+1),())))
  (hx:step ((k:Int),())=some (.inr good)):Zr step ((0:Int),())=some (sel (∀ (j:Nat) (q:α),j<k->l[j]?=some q->f q≠f x) good bad):=by
 rw[Zjv k (by omega) (λj=>∀ q,l[j]?=some q->f q≠f x) (bad:=bad) (good:=good) (λj hj=>by
  have hjl:l[j]?=some l[j]:=Ub (by omega);rw[hs j _ hj hjl];constructor
  ·intro hh;rw[Ug (hh _ hjl)]
  ·intro hh
   rw[Uf];apply UQ;intro hne;refine hh (λq hq=>?_);rw[hjl] at hq;injection hq with hq;subst hq;exact hne) (λ_=>hx)]
 congr 1;have e:(∀ j,j<k->∀ q,l[j]?=some q->f q≠f x)<->(∀ (j:Nat) (q:α),j<k->l[j]?=some q->f q≠f x):=⟨λh j q hj hq=>h j hj q hq,λh j hj q hq=>h j q hj hq⟩;rw[propext e]
theorem Zh6 (a:Zz) (h:sm Qf a):Zci a=some (tr (Zmq a)):=by
 have hc:=Zrp h;have hs:=Zw hc;unfold Zci;rw[XJ (Yt hc) (λk c=>Zgm c/\∀ (j:Nat) (q:Zl),j<k->(KE a)[j]?=some q->Gf q≠Gf c) (bad:=false) (good:=tr ((KE a).length<=8))
  (λk c hx hk _=>by
   simp only[Zad,show (k:Int)<((KE a).length:Int) from by omega,Um,Zy,hx,Bq,Zkc c (Zd5 hc hx)];by_cases hC:Zgm c
   ·rw[Uf (Yc hC),Zf7 (f:=Gf) (l:=KE a) (x:=c) (k:=k) (by omega) (by omega) (bad:=.inr false) (good:=.inl (Wq ((k:Int)+1),()))
     (λj y hj hy=>by
      simp only[Zac,show (j:Int)<(k:Int) from by omega,Um,Zy,hy,Bq];split<;>rfl)
     (by simp only[Zac,Uh,Uk])]
    constructor
    ·intro hh;rw[YM hh.2]
    ·intro hh;rw[YA (λq=>hh ⟨hC,q⟩)]
   ·rw[Ug (by rw[ZM hC];simp)]
    exact ⟨λhh=>absurd hh.1 hC,λ_=>rfl⟩)
  (λ_=>by
   simp only[Zad,Uh,Uk];congr 2;exact (ZiM (by rw[Uq];omega)).symm)]
 rw[Zbp];congr 1;refine YG ?_;unfold Zmq;rw[Zd1,Zjw,<-QL];constructor
 ·rintro ⟨q,q8⟩
  exact ⟨q8,λk x hx=>(q k x hx).1,λk x hx=>⟨(q k x hx).1.1,(q k x hx).2⟩⟩
 ·rintro ⟨q8,q1,q2⟩
  exact ⟨λk x hx=>⟨q1 k x hx,(q2 k x hx).2⟩,q8⟩
theorem ZcK (l:List (List UInt8)) (hl:l.length<=1048576) (hsm:∀ s∈l,s.length<=4611686018427387904):J7 l=some (tr (Qa l l.length)):=by
 unfold J7;rw[XJ (show Len l by show l.length<=4611686018427387904;omega) (λk s=>Vw s=true/\∀ (j:Nat) (q:List UInt8),j<k->l[j]?=some q->id q≠id s) (bad:=false) (good:=true)
  (λk s hx hk _=>by
   simp only[ZaN,show (k:Int)<(l.length:Int) from by omega,Um,Zy,hx,Bq,JD s (hsm s (Ui hx))];by_cases hC:Vw s=true
   ·rw[Uf hC,Zf7 (f:=id) (l:=l) (x:=s) (k:=k) (by omega) (by omega) (bad:=.inr false) (good:=.inl (Wq ((k:Int)+1),()))
     (λj y hj hy=>by
      simp only[ZaM,show (j:Int)<(k:Int) from by omega,Um,Zy,hy,Bq,id];split<;>rfl)
     (by simp only[ZaM,Uh,Uk])]
    constructor
    ·intro hh;rw[YM hh.2]
    ·intro hh;rw[YA (λq=>hh ⟨hC,q⟩)]
   ·rw[Ug hC]
    exact ⟨λhh=>absurd hh.1 hC,λ_=>rfl⟩)
  (λ_=>by simp only[ZaN,Uh,Uk]),Zhg]
 congr 1;refine YG ?_;have:=Zjw id l;rw[List.map_id] at this;exact this.symm
def Zdl (d:Zg):List (List UInt8):=(Kr d).map Gs
def Zbm (d:Zg):List (List UInt8):=(KB d).map Gt
def Zgo (d:Zg):Prop:=(Kr d).length<=14/\(KI d).length<=30/\(KB d).length<=8/\Qa (Zdl d) (Zdl d).length/\Qa (KI d) (KI d).length/\Qa (Zbm d) (Zbm d).length
theorem gather {α ρ:Type} {l:List α} (hl:l.length<=1048576) (f:α->List UInt8) {step:List (List UInt8)×Int×Unit->Option ((List (List UInt8)×Int×Unit) ⊕ ρ)} {good:ρ}
  (hs:∀ (k:Nat) (x:α) (o:List (List UInt8)),l[k]?=some x->(k:Int)<(l.length:Int)->o.length=k->step (o,(k:Int),())=Zp ((o.length+[f x].length)*16<=140737488355328) (some (.inl (o++[f x],Wq ((k:Int)+1),()))))
  (hx:step (l.map f,(l.length:Int),())=some (.inr good)):Zr step (([]:List (List UInt8)),(0:Int),())=some good:=by
 refine (show Zr step (([]:List (List UInt8)),(0:Int),())=some good from Jz (l:=l) (λk=>((l.map f).take k,(k:Int),())) (λk x hx hk=>?_) ?_)
 ·have hn:(l.map f)[k]?=some (f x):=by simp[hx]
  have hlen:((l.map f).take k).length=k:=by rw[Un,List.length_map];omega
  rw[hs k x _ hx (by omega) hlen,Zt (by rw[hlen];simp;omega),Y3 hn,Vn (by omega)]
 ·have e0:(l.map f).take l.length=l.map f:=by rw[show l.length=(l.map f).length by simp,Ut]
  simp only[e0];exact hx
theorem Zhl {d:Zg} (h:sm XZ d):sm (.sl ZcC) (Kr d)/\sm (.sl Zoq) (KB d)/\sm (.sl .str) (KI d):=by
 refine ⟨?_,?_,?_⟩
 ·first | exact h.1 | exact h.2.1 | exact h.2.2.1 | exact h.2.2.2.1
 ·first | exact h.1 | exact h.2.1 | exact h.2.2.1 | exact h.2.2.2.1
 ·first | exact h.1 | exact h.2.1 | exact h.2.2.1 | exact h.2.2.2.1
theorem Zmb {x:Zo} (h:sm ZcC x):sm .str (Gs x)/\sm (.sl (.int .i64)) (KM x):=by
 refine ⟨?_,?_⟩
 ·first | exact h.1 | exact h.2.1 | exact h.2.2.1 | exact h.2.2.2.1
 ·first | exact h.1 | exact h.2.1 | exact h.2.2.1 | exact h.2.2.2.1
theorem Zs5 {x:YE} (h:sm Zoq x):sm .str (Gt x):=by
 first | exact h.1 | exact h.2.1 | exact h.2.2.1 | exact h.2.2.2.1
theorem Zeg (d:Zg) (h:sm XZ d):Vh d=some (tr (Zgo d)):=by
 obtain ⟨h1,h2,h3⟩:=Zhl h;have s1:=Zw h1;have s2:=Zw h2;have s3:=Zw h3;unfold Vh;refine gather (l:=Kr d) s1 Gs (λk x o hx hk ho=>?_) ?_
 ·simp only[QI,hk,Um,Zy,hx,Bq]
 simp only[QI,Uh,Uk];have hi:(Zdl d).length=(Kr d).length:=by simp[Zdl]
 have hp:(Zbm d).length=(KB d).length:=by simp[Zbm]
 refine gather (l:=KB d) s2 Gt (λk x o hx hk ho=>?_) ?_
 ·simp only[QH,hk,Um,Zy,hx,Bq]
 simp only[QH,Uh,Uk];rw[show List.map Gt (KB d)=Zbm d from rfl,show List.map Gs (Kr d)=Zdl d from rfl];simp only[hi,hp,XU _ (show (Zdl d).length<=4611686018427387904 by omega),XU _ (show (Zbm d).length<=4611686018427387904 by omega),XU _ (show (KI d).length<=4611686018427387904 by omega),Bq];unfold Zgo;rw[hi,hp];by_cases a:(Kr d).length<=14
 ·rw[Uf (by omega)]
  by_cases b:(KI d).length<=30
  ·rw[Uf (by omega)]
   by_cases c:(KB d).length<=8
   ·rw[Uf (by omega)]
    by_cases e:Qa (Zdl d) (Kr d).length
    ·rw[Uf (Yc e)]
     by_cases f:Qa (KI d) (KI d).length
     ·rw[Uf (Yc f)]
      grind
     ·rw[Ug (by rw[ZM f];simp),ZM (λq=>f q.2.2.2.2.1)]
    ·rw[Ug (by rw[ZM e];simp),ZM (λq=>e q.2.2.2.1)]
   ·rw[Ug (by omega),ZM (λq=>c q.2.2.1)]
  ·rw[Ug (by omega),ZM (λq=>b q.2.1)]
 ·rw[Ug (by omega),ZM (λq=>a q.1)]
def Ziv (n:Nat) (s:List Int):List Int:=(List.range n).map (λ(j:Nat)=>((s.countP (λx=>decide (x=(j:Int))):Nat):Int))
theorem Zgv (n:Nat) (s:List Int):(Ziv n s).length=n:=by simp[Ziv]
theorem Zk0 (n:Nat):Ziv n []=List.replicate n 0:=by
 apply UV;intro i;simp only[Ziv,List.countP_nil,UZ,List.getElem?_replicate,List.getElem?_range];grind
theorem ZiP {n:Nat} {s:List Int} {j:Nat} (h:j<n):(Ziv n s)[j]?=some ((s.countP (λx=>decide (x=(j:Int))):Nat):Int):=by
 simp[Ziv,h]
theorem ZrW {n:Nat} {s:List Int} {x:Int} (h0:0<=x) (h1:x<(n:Int)):atI (Ziv n s) x=some ((s.countP (λy=>decide (y=x)):Nat):Int):=by
 refine Za5 h0 ?_;rw[ZiP (by omega),show ((x.toNat:Nat):Int)=x by omega]
theorem ZqC {n:Nat} {s:List Int} {x:Int} (h0:0<=x) (h1:x<(n:Int)):List.set (Ziv n s) (Int.toNat x) (((s.countP (λy=>decide (y=x)):Nat):Int)+1)=Ziv n (s++[x]):=by
 apply UV;intro i;rw[List.getElem?_set];by_cases hi:i<n
 ·rw[ZiP hi,ZiP hi,Ki,Zgv]
  grind
 ·have h1:(Ziv n s)[i]?=none:=by rw[US];rw[Zgv];omega
  have h2:(Ziv n (s++[x]))[i]?=none:=by rw[US];rw[Zgv];omega
  grind
theorem Ze0 {n:Nat} {s:List Int} {x:Int} (h0:0<=x) (h1:x<(n:Int)) (hs:s.length<=1048576000) {τ:Type} (F:List Int->Option τ) :
  ((atI (Ziv n s) x).bind λy=>F (List.set (Ziv n s) (Int.toNat x) (Wq (y+1))))=F (Ziv n (s++[x])):=by
 have h2:=List.countP_le_length (p:=λy=>decide (y=x)) (l:=s);rw[ZrW h0 h1,Bq,Xa (by omega) (by omega),ZqC h0 h1]
def Zbj (x:Zo):Int:=(KM x).getLastD 0
def ZlC (d:Zg) (n:Int):Prop:=0<=n/\n<=((KI d).length:Int)-1
def ZfG (a:Zz) (d:Zg) (x:Zo):Prop :=
 (0<=Gh x/\Gh x<=((KE a).length:Int)-1)/\(∃ c,(KE a)[(Gh x).toNat]?=some c/\(KM x).length=(Ks c).length)/\∀ n∈KM x,ZlC d n
def ZfJ (d:Zg) (p:YE):Prop:=(1<=KX p/\KX p<=2)/\ZlC d (K2 p)
def Zvz (d:Zg):List Int:=(Kr d).map Zbj++((KB d).filter (λp=>decide (KX p=1))).map K2
def Zgp (d:Zg):Prop:=∀ x∈Ziv (KI d).length (Zvz d),x=1
def Zb7 (a:Zz) (d:Zg):Prop:=Zmq a/\Zgo d/\(∀ x∈Kr d,ZfG a d x)/\(∀ p∈KB d,ZfJ d p)/\Zgp d
theorem ZfG.last {a:Zz} {d:Zg} {x:Zo} (h:ZfG a d x) (hl:Zmq a) (hsm:(KM x).length<=1048576):atI (KM x) (Wq (((KM x).length:Int)-1))=some (Zbj x)/\ZlC d (Zbj x):=by
 obtain ⟨_,⟨c,hc,hn⟩,hall⟩:=h;have h2:2<=(Ks c).length:=(hl.2.1 c (Ui hc)).2.1.1;unfold Zbj;cases hN:KM x with
 | nil=>grind
 | cons y r =>
  rw[hN] at hsm;rw[Zib hsm (by simp),Zy];grind
theorem ZcP (d:Zg) (n:Int) (h:sm XZ d):XB d n=some (tr (ZlC d n)):=by
 have s3:=Zw (Zhl h).2.2;unfold XB;rw[show Zbf (KI d)=some ((KI d).length:Int) from rfl,Bq,Xa (by omega) (by omega)];exact Zax (YQ _ _ _)
theorem ZdS (d:Zg) (a:Zz) (x:Zo) (hd:sm XZ d) (ha:sm Qf a) (hx:sm ZcC x):QA d a x=some (tr (ZfG a d x)):=by
 have sa:=Zw (Zrp ha);unfold QA;rw[show Jw (KE a)=some ((KE a).length:Int) from rfl,Bq,Xa (by omega) (by omega)];refine ZbS (P:=(0<=Gh x/\Gh x<=((KE a).length:Int)-1)/\ZfG a d x) (Yw (YQ _ _ _) (λhw=>?_)) ⟨λq=>q.2,λq=>⟨q.1,q⟩⟩;obtain ⟨c,hc1,hc2⟩:=Zic hw.1 (show Gh x<((KE a).length:Int) by omega);rw[hc1,Bq];refine ZbS (P:=((KM x).length:Int)=((Ks c).length:Int)/\∀ n∈KM x,ZlC d n) (YZ (λhe=>?_)) ?_
 ·rw[Xd (Yt (Zmb hx).2) (λn=>!tr (ZlC d n)) (λn _=>by
   unfold Y0;show (XB d n).bind _=_;rw[ZcP d n hd];rfl),Bq]
  refine J9 ?_;rw[UH,List.any_eq_false];constructor
  ·intro q n hn
   have:=q n hn;simp only[UH,Bool.not_eq_false] at this;exact (XD _).1 this
  ·intro q n hn
   simp only[UH,Bool.not_eq_false];exact Yc (q n hn)
 ·constructor
  ·rintro ⟨q1,q2⟩;exact ⟨hw,⟨c,hc2,by omega⟩,q2⟩
  ·rintro ⟨_,⟨c',q1,q2⟩,q3⟩
   grind
theorem Zne {d:Zg} {k:Nat} {p:YE} (hx:(KB d)[k]?=some p) (s:List Int) :
  s++(((KB d).take (k+1)).filter (λp=>decide (KX p=1))).map K2=(if KX p=1 then (s++(((KB d).take k).filter (λp=>decide (KX p=1))).map K2)++[K2 p] else s++(((KB d).take k).filter (λp=>decide (KX p=1))).map K2):=by
 rw[Y3 hx,List.filter_append,List.map_append];grind
theorem Zo9 {d:Zg} (k m:Nat):(((Kr d).take m).map Zbj++(((KB d).take k).filter (λp=>decide (KX p=1))).map K2).length<=(Kr d).length+(KB d).length:=by
 grind
theorem Ziz (a:Zz) (d:Zg) (ha:sm Qf a) (hd:sm XZ d):ZcX a d=some (tr (Zb7 a d)):=by
 obtain ⟨h1,h2,h3⟩:=Zhl hd;have s1:=Zw h1;have s2:=Zw h2;have s3:=Zw h3;unfold ZcX;refine ZbS (P:=Zmq a/\Zgo d/\(ZcN (Kr d) (λ_ x=>ZfG a d x)/\(ZcN (KB d) (λ_ p=>ZfJ d p)/\Zgp d))) (Yw (ZhN a ha) (λhL=>Yw (Zeg d hd) (λhN=>?_))) (by rw[QL,QL];exact Iff.rfl);rw[Zt (by omega),Zt (by omega),Zt (by omega),Zt (by omega)];have:=Zen (l:=Kr d) (ρ:=Bool) (λk=>((k:Int),Ziv (KI d).length (((Kr d).take k).map Zbj),())) (λ_ x=>ZfG a d x) (step:=λv=>VF a d v.1 v.2.1) (bad:=false) (good:=tr (ZcN (KB d) (λ_ p=>ZfJ d p)/\Zgp d))
  (λk x hx hk _=>by
   have hsx:=Zd5 h1 hx;simp only[VF,show (k:Int)<((Kr d).length:Int) from by omega,Um,Zy,hx,Bq,ZdS d a x hd ha hsx];constructor
   ·intro hh
    obtain ⟨e1,e2⟩:=hh.last hL (Zw (Zmb hsx).2);rw[Uf (Yc hh),e1,Bq,Ze0 e2.1 (by have:=e2.2;omega) (by grind) (F:=λo=>some (Sum.inl (Wq ((k:Int)+1),o,()))),Y3 hx,List.map_append,Vn (by omega)];rfl
   ·intro hh;rw[Ug (by rw[ZM hh];simp)])
  (λhA=>by
   simp only[VF,Uh,Uk,Ut];have:=Zen (l:=KB d) (ρ:=Int×List Int×Unit ⊕ Bool) (λk=>((k:Int),Ziv (KI d).length ((Kr d).map Zbj++(((KB d).take k).filter (λp=>decide (KX p=1))).map K2),())) (λ_ p=>ZfJ d p) (step:=λv=>Qr d v.1 v.2.1) (bad:=.inr false) (good:=.inr (tr (Zgp d)))
    (λk p hx hk _=>by
     have hl:=Zo9 (d:=d) k (Kr d).length;rw[Ut] at hl;simp only[Qr,show (k:Int)<((KB d).length:Int) from by omega,Um,Zy,hx,Bq,ZcP d _ hd,Zne hx];by_cases d1:KX p=1
     ·simp only[d1,Um]
      constructor
      ·intro hh
       rw[Uf (Yc hh.2),Ze0 hh.2.1 (by have:=hh.2.2;omega) (by omega) (F:=λo=>some (Sum.inl (Wq ((k:Int)+1),o,()))),Vn (by omega)]
      ·intro hh
       rw[Ug (by rw[ZM (λq=>hh ⟨by omega,q⟩)];simp)]
     ·simp only[d1,Uk]
      by_cases d2:KX p=2
      ·simp only[d2,Um]
       constructor
       ·intro hh
        rw[Uf (Yc hh.2),Vn (by omega)]
       ·intro hh
        rw[Ug (by rw[ZM (λq=>hh ⟨by omega,q⟩)];simp)]
      ·simp only[d2,Uk]
       exact ⟨λhh=>by have:=hh.1;omega,λ_=>trivial⟩)
    (λ_=>by
     simp only[Qr,Uh,Uk,Ut];rw[Qv (show Len _ by show List.length _<=_;rw[Zgv];omega) (λn=>!decide (n=1)) (λn _=>rfl),Bq];congr 3;refine (ZiM ?_).symm;rw[UH,List.any_eq_false];simp only[UH,Bool.not_eq_false,Uq,decide_eq_false_iff_not,Classical.not_not];exact Iff.rfl)
   refine (show Zr (λv=>Qr d v.1 v.2.1) ((0:Int),Ziv (KI d).length ((Kr d).map Zbj),())=_ from (by simpa using this)).trans ?_;by_cases hP:ZcN (KB d) (λ_ p=>ZfJ d p)
   ·rw[YM hP];grind
   ·rw[YA hP,ZM (λq=>hP q.1)])
 rw[Zbp] at this;refine Eq.trans ?_ this;rw[List.take_zero,List.map_nil,Zk0];rfl
theorem ZiJ (a:Zz) (d:Zg) (ha:sm Qf a) (hd:sm XZ d):Zc2 a d=some (tr (ZcN (Kr d) (λ_ x=>ZfG a d x)/\ZcN (KB d) (λ_ p=>ZfJ d p))):=by
 obtain ⟨h1,h2,h3⟩:=Zhl hd;have s1:=Zw h1;have s2:=Zw h2;have s3:=Zw h3;have sa:=Zw (Zrp ha);have e1:Wq (((KI d).length:Int)-1)=((KI d).length:Int)-1:=Xa (by omega) (by omega);have e2:Wq (((KE a).length:Int)-1)=((KE a).length:Int)-1:=Xa (by omega) (by omega);unfold Zc2;rw[XJ (Yt h1) (λ_ x=>ZfG a d x) (bad:=false) (good:=tr (ZcN (KB d) (λ_ p=>ZfJ d p)))
  (λk x hx hk _=>by
   have hsx:=Zd5 h1 hx;simp only[ZaQ,show (k:Int)<((Kr d).length:Int) from by omega,Um,Zy,hx,Bq,QB,e2];by_cases hc:0<=Gh x/\Gh x<=((KE a).length:Int)-1
   ·obtain ⟨c,hc1,hc2⟩:=Zic hc.1 (show Gh x<((KE a).length:Int) by omega)
    rw[Uf (Yc hc),hc1,Bq];by_cases hp:((KM x).length:Int)=((Ks c).length:Int)
    ·rw[Uf hp,XJ (Yt (Zmb hsx).2) (λ_ n=>ZlC d n) (bad:=.inr false) (good:=.inl (Wq ((k:Int)+1),()))
      (λj n hn hj _=>by
       simp only[ZaO,show (j:Int)<((KM x).length:Int) from by omega,Um,Zy,hn,Bq,QB,e1];constructor
       ·intro hh;exact Uf (Yc hh)
       ·intro hh;exact Ug (λq=>hh ((XD _).1 q)))
      (λ_=>by simp only[ZaO,Uh,Uk])]
     constructor
     ·intro hh;rw[YM (QL.2 hh.2.2)]
     ·intro hh;rw[YA (λq=>hh ⟨hc,⟨c,hc2,by omega⟩,QL.1 q⟩)]
    ·rw[Ug hp]
     refine ⟨λhh=>?_,λ_=>rfl⟩;obtain ⟨_,⟨c',q1,q2⟩,_⟩:=hh;rw[hc2] at q1;injection q1 with q1;subst q1
     exact absurd (by omega) hp
   ·rw[Ug (by rw[ZM hc];simp)]
    exact ⟨λhh=>absurd hh.1 hc,λ_=>rfl⟩)
  (λ_=>by
   simp only[ZaQ,Uh,Uk];rw[XJ (Yt h2) (λ_ p=>ZfJ d p) (bad:=.inr false) (good:=.inr true)
    (λk p hx hk _=>by
     simp only[ZaP,show (k:Int)<((KB d).length:Int) from by omega,Um,Zy,hx,Bq,QB,e1];by_cases hc:1<=KX p/\KX p<=2
     ·rw[Uf (Yc hc)]
      constructor
      ·intro hh;exact Uf (Yc hh.2)
      ·intro hh;exact Ug (λq=>hh ⟨hc,(XD _).1 q⟩)
     ·rw[Ug (by rw[ZM hc];simp)]
      exact ⟨λhh=>absurd hh.1 hc,λ_=>rfl⟩)
    (λ_=>by simp only[ZaP,Uh,Uk])]
   congr 1;by_cases hh:ZcN (KB d) (λ_ p=>ZfJ d p)
   ·rw[YM hh,Yc hh]
   ·rw[YA hh,ZM hh])]
 rw[Zbp]
theorem ZnC {α:Type} {l:List α} {f:α->List UInt8} (h:∀ x∈l,(f x).length<=4611686018427387904):∀ s∈l.map f,s.length<=4611686018427387904:=by
 intro s hs;obtain ⟨x,hx,rfl⟩:=List.mem_map.1 hs;exact h x hx
theorem ZiH (a:Zz) (d:Zg) (ha:sm Qf a) (hd:sm XZ d):Zc0 a d=some (tr (Zb7 a d)):=by
 obtain ⟨h1,h2,h3⟩:=Zhl hd;have s1:=Zw h1;have s2:=Zw h2;have s3:=Zw h3;unfold Zc0;refine ZbS (Yw (Zh6 a ha) (λhL=>Zdd (λa1=>Zdd (λa2=>Zdd (λa3=>Yw (ZiJ a d ha hd) (λhP=>?_))))))
  (P:=Zmq a/\¬(14:Int)<((Kr d).length:Int)/\¬(30:Int)<((KI d).length:Int)/\¬(8:Int)<((KB d).length:Int)/\(ZcN (Kr d) (λ_ x=>ZfG a d x)/\ZcN (KB d) (λ_ p=>ZfJ d p))/\(Qa (Zdl d) (Zdl d).length/\Qa (Zbm d) (Zbm d).length/\Qa (KI d) (KI d).length)/\Zgp d) ?_
 ·have hi:(Zdl d).length=(Kr d).length:=by simp[Zdl]
  have hp:(Zbm d).length=(KB d).length:=by simp[Zbm]
  refine gather (l:=Kr d) s1 Gs (λk x o hx hk ho=>?_) ?_
  ·simp only[ZaK,hk,Um,Zy,hx,Bq]
  simp only[ZaK,Uh,Uk];refine gather (l:=KB d) s2 Gt (λk x o hx hk ho=>?_) ?_
  ·simp only[ZaJ,hk,Um,Zy,hx,Bq]
  simp only[ZaJ,Uh,Uk];rw[show List.map Gt (KB d)=Zbm d from rfl,show List.map Gs (Kr d)=Zdl d from rfl];simp only[ZcK (Zdl d) (by omega) (ZnC (λx hx=>Zdp (Zmb (ZkF h1 hx)).1)),ZcK (Zbm d) (by omega) (ZnC (λx hx=>Zdp (Zs5 (ZkF h2 hx)))),ZcK (KI d) (by omega) (λs hs=>Zdp (ZkF h3 hs)),Bq];by_cases n1:Qa (Zdl d) (Zdl d).length
  ·rw[Uf (Yc n1)]
   by_cases n2:Qa (Zbm d) (Zbm d).length
   ·rw[Uf (Yc n2)]
    by_cases n3:Qa (KI d) (KI d).length
    ·rw[Uf (Yc n3),Zt (by omega),Zt (by omega),Zt (by omega),Zt (by omega)]
     have:=Jz (l:=Kr d) (ρ:=(List (List UInt8))×Int×Unit ⊕ ((List (List UInt8))×Int×Unit ⊕ Bool)) (λk=>((k:Int),Ziv (KI d).length (((Kr d).take k).map Zbj),())) (step:=λv=>Qx d v.1 v.2.1) (good:=.inr (.inr (tr (Zgp d))))
      (λk x hx hk=>by
       have hsx:=Zd5 h1 hx;obtain ⟨e1,e2⟩:=(hP.1 k x hx).last hL (Zw (Zmb hsx).2);simp only[Qx,show (k:Int)<((Kr d).length:Int) from by omega,Um,Zy,hx,Bq];rw[e1,Bq,Ze0 e2.1 (by have:=e2.2;omega) (by simp only[List.length_map,Un];omega) (F:=λo=>some (Sum.inl (Wq ((k:Int)+1),o,()))),Y3 hx,List.map_append,Vn (by omega)];rfl)
      (by
       simp only[Qx,Uh,Uk,Ut];have:=Jz (l:=KB d) (ρ:=Int×List Int×Unit ⊕ ((List (List UInt8))×Int×Unit ⊕ ((List (List UInt8))×Int×Unit ⊕ Bool))) (λk=>((k:Int),Ziv (KI d).length ((Kr d).map Zbj++(((KB d).take k).filter (λp=>decide (KX p=1))).map K2),())) (step:=λv=>Qw d v.1 v.2.1) (good:=.inr (.inr (.inr (tr (Zgp d)))))
        (λk p hx hk=>by
         have hl:=Zo9 (d:=d) k (Kr d).length;rw[Ut] at hl;have hpo:=hP.2 k p hx;simp only[Qw,show (k:Int)<((KB d).length:Int) from by omega,Um,Zy,hx,Bq,Zne hx];by_cases d1:KX p=1
         ·simp only[d1,Um]
          rw[Ze0 hpo.2.1 (by have:=hpo.2.2;omega) (by omega) (F:=λo=>some (Sum.inl (Wq ((k:Int)+1),o,()))),Vn (by omega)]
         ·simp only[d1,Uk]
          rw[Vn (by omega)])
        (by
         simp only[Qw,Uh,Uk,Ut];rw[XJ (l:=Ziv (KI d).length ((Kr d).map Zbj++((KB d).filter (λp=>decide (KX p=1))).map K2)) (show List.length _<=_ by rw[Zgv];omega) (λ_ x=>x=1) (bad:=.inr (.inr (.inr (.inr false)))) (good:=.inr (.inr (.inr (.inr true))))
          (λk x hx hk _=>by
           simp only[ZaI,show (k:Int)<((Ziv (KI d).length ((Kr d).map Zbj++((KB d).filter (λp=>decide (KX p=1))).map K2)).length:Int) from by omega,Um,Zy,hx,Bq];constructor
           ·intro hh;rw[Uf hh]
           ·intro hh;rw[Ug hh])
          (λ_=>by simp only[ZaI,Uh,Uk])]
         congr 1;have e:ZcN (Ziv (KI d).length ((Kr d).map Zbj++((KB d).filter (λp=>decide (KX p=1))).map K2)) (λ_ x=>x=1)<->Zgp d:=by
          rw[QL];exact Iff.rfl
         by_cases hh:Zgp d
         ·rw[YM (e.2 hh),Yc hh]
         ·rw[YA (λq=>hh (e.1 q)),ZM hh])
       refine (show Zr (λv=>Qw d v.1 v.2.1) ((0:Int),Ziv (KI d).length ((Kr d).map Zbj),())=_ from (by simpa using this)).trans ?_;rfl)
     rw[List.take_zero,List.map_nil,Zk0] at this;refine (show Zr (λv=>Qx d v.1 v.2.1) ((0:Int),List.replicate (KI d).length 0,())=_ from this).trans ?_;congr 3;exact YG ⟨λq=>⟨⟨n1,n2,n3⟩,q⟩,λq=>q.2⟩
    ·rw[Ug (by rw[ZM n3];simp),ZM (λq=>n3 q.1.2.2)]
   ·rw[Ug (by rw[ZM n2];simp),ZM (λq=>n2 q.1.2.1)]
  ·rw[Ug (by rw[ZM n1];simp),ZM (λq=>n1 q.1.1)]
 ·unfold Zb7 Zgo
  rw[QL,QL];constructor
  ·rintro ⟨q1,q2,q3,q4,⟨q5,q6⟩,⟨q7,q8,q9⟩,q10⟩
   exact ⟨q1,⟨by omega,by omega,by omega,q7,q9,q8⟩,q5,q6,q10⟩
  ·rintro ⟨q1,⟨q2,q3,q4,q7,q9,q8⟩,q5,q6,q10⟩
   exact ⟨q1,by omega,by omega,by omega,⟨q5,q6⟩,⟨q7,q8,q9⟩,q10⟩
def cat {α β:Type} (f:Nat->α->List β):Nat->List α->List β
 | _,[]=>[]
 | k,x::r=>f k x++cat f (k+1) r
theorem Zko {α β:Type} (f:Nat->α->List β):∀ (l r:List α) (m:Nat),cat f m (l++r)=cat f m l++cat f (m+l.length) r
 | [],r,m=>by simp[cat]
 | x::l,r,m=>by
  simp only[UR,cat,Ud,Zko f l r,Uj];rw[show m+1+l.length=m+(l.length+1) by omega]
theorem ZqA {α β:Type} {f:Nat->α->List β} {l:List α} {k:Nat} {x:α} (hx:l[k]?=some x):cat f 0 (l.take (k+1))=cat f 0 (l.take k)++f k x:=by
 have hk:=(Ua.1 hx).1;rw[Y3 hx,Zko];simp only[cat,UB,Un,Up];rw[show min k l.length=k by omega]
theorem ZdV {α β:Type} {f:Nat->α->List β} {y:β}:∀ {l:List α} {m:Nat},y∈cat f m l<->∃ (k:Nat) (x:α),l[k]?=some x/\y∈f (m+k) x
 | [],m=>by simp[cat]
 | z::r,m=>by
  simp only[cat,UC,ZdV (l:=r)];constructor
  ·rintro (h | ⟨k,x,h1,h2⟩)
   ·exact ⟨0,z,rfl,h⟩
   ·exact ⟨k+1,x,by simpa using h1,by rw[show m+(k+1)=m+1+k by omega];exact h2⟩
  ·rintro ⟨k,x,h1,h2⟩
   cases k with
   | zero=>simp at h1;subst h1;exact .inl h2
   | succ k=>exact .inr ⟨k,x,by simpa using h1,by rw[show m+1+k=m+(k+1) by omega];exact h2⟩
theorem ZeY {α β:Type} {f:Nat->α->List β} {c:Nat}:∀ {l:List α} {m:Nat},(∀ k,∀ x∈l,(f k x).length<=c)->(cat f m l).length<=c*l.length
 | [],m,_=>by simp[cat]
 | z::r,m,h=>by
  simp only[cat,Ue,Ud];have h1:=h m z (by simp);have h2:=ZeY (f:=f) (l:=r) (m:=m+1) (λk x hx=>h k x (by simp[hx]));rw[Nat.mul_add];omega
theorem JJ {α β ρ:Type} {l:List α} (f:Nat->α->List β) (acc:List β) {step:List β×Int×Unit->Option ((List β×Int×Unit) ⊕ ρ)} {good:ρ}
  (hs:∀ (k:Nat) (x:α),l[k]?=some x->k<l.length->step (acc++cat f 0 (l.take k),(k:Int),())=some (.inl ((acc++cat f 0 (l.take k))++f k x,((k+1:Nat):Int),())))
  (hx:step (acc++cat f 0 l,(l.length:Int),())=some (.inr good)):Zr step (acc,(0:Int),())=some good:=by
 have:=Jz (l:=l) (ρ:=ρ) (λk=>(acc++cat f 0 (l.take k),(k:Int),())) (step:=step) (good:=good) (λk x hx hk=>by
  rw[hs k x hx hk,ZqA hx,Uj]) (by simp only[Ut];exact hx)
 simpa[cat] using this
abbrev Pl:=Int×Int×Int×Bool×Unit
def Zg5 (i:Nat) (x:Zo):List Pl:=cat (λj n=>[((i:Int),(j:Int),n,decide ((j:Int)=Wq (((KM x).length:Int)-1)),())]) 0 (KM x)
def ZfU (j:Nat) (p:YE):List Pl:=[((-1:Int),(j:Int),K2 p,decide (KX p=1),())]
def places (d:Zg):List Pl:=cat Zg5 0 (Kr d)++cat ZfU 0 (KB d)
theorem Zn3 (i:Nat) (x:Zo):(Zg5 i x).length<=(KM x).length:=by
 have:=ZeY (f:=λj n=>[((i:Int),(j:Int),n,decide ((j:Int)=Wq (((KM x).length:Int)-1)),())]) (c:=1) (l:=KM x) (m:=0) (λ_ _ _=>by simp);simpa[Zg5] using this
structure Few (d:Zg):Prop where
 insts:(Kr d).length<=14
 ports:(KB d).length<=8
 nets:∀ x∈Kr d,(KM x).length<=5
theorem Zb7.few {a:Zz} {d:Zg} (h:Zb7 a d):Few d:=by
 refine ⟨h.2.1.1,h.2.1.2.2.1,λx hx=>?_⟩;obtain ⟨_,⟨c,hc,hn⟩,_⟩:=h.2.2.1 x hx;have:=(h.1.2.1 c (Ui hc)).2.1.2.1;omega
theorem Zcr {d:Zg} (h:Few d) (k:Nat):(cat Zg5 0 ((Kr d).take k)).length<=70:=by
 have:=ZeY (f:=Zg5) (c:=5) (l:=(Kr d).take k) (m:=0) (λi x hx=>by
  have h1:=Zn3 i x;have h2:=h.nets x (List.mem_of_mem_take hx);omega)
 have h1:=h.insts;rw[Un] at this;omega
theorem ZeZ {d:Zg} (h:Few d) (k:Nat):(cat ZfU 0 ((KB d).take k)).length<=8:=by
 have:=ZeY (f:=ZfU) (c:=1) (l:=(KB d).take k) (m:=0) (λi x hx=>by simp[ZfU]);have h1:=h.ports;rw[Un] at this;omega
theorem XQ {d:Zg} (h:Few d):(places d).length<=78:=by
 have h1:=Zcr h (Kr d).length;have h2:=ZeZ h (KB d).length;rw[Ut] at h1 h2;unfold places;rw[Ue];omega
theorem QU (d:Zg) (h:Few d):Xg d=some (places d):=by
 have h1:=h.insts;have h2:=h.ports;unfold Xg;refine JJ (l:=Kr d) Zg5 [] (λk x hx hk=>?_) ?_
 ·have hn:=h.nets x (Ui hx)
  have hl:=Zcr h k;simp only[Uv,Vr,show (k:Int)<((Kr d).length:Int) from by omega,Um,Zy,hx,Bq];refine JJ (l:=KM x) (λj n=>[((k:Int),(j:Int),n,decide ((j:Int)=Wq (((KM x).length:Int)-1)),())]) _ (λj n hj hk'=>?_) ?_
  ·have hl2:=ZeY (f:=λj n=>[((k:Int),(j:Int),n,decide ((j:Int)=Wq (((KM x).length:Int)-1)),())]) (c:=1) (l:=(KM x).take j) (m:=0) (λ_ _ _=>by simp)
   rw[Un] at hl2;simp only[Vp,show (j:Int)<((KM x).length:Int) from by omega,Um,Zy,hj,Bq];rw[Zt (by rw[Ue,UP];omega),Vn (by omega)]
  ·simp only[Vp,Uh,Uk]
   rw[Vn (by omega)];rfl
 ·have hl:=Zcr h (Kr d).length
  rw[Ut] at hl;simp only[Uv,Vr,Uh,Uk];refine JJ (l:=KB d) ZfU _ (λj p hj hk'=>?_) ?_
  ·have hl2:=ZeZ h j
   simp only[Vq,show (j:Int)<((KB d).length:Int) from by omega,Um,Zy,hj,Bq];rw[Zt (by rw[Ue,UP];omega),Vn (by omega)];rfl
  ·simp only[Vq,Uh,Uk];rfl
theorem Vs (d:Zg) (h:Few d):Xf d=some (places d):=by
 have h1:=h.insts;have h2:=h.ports;unfold Xf;refine JJ (l:=Kr d) Zg5 [] (λk x hx hk=>?_) ?_
 ·have hn:=h.nets x (Ui hx)
  have hl:=Zcr h k;simp only[Uv,Zah,show (k:Int)<((Kr d).length:Int) from by omega,Um,Zy,hx,Bq];refine JJ (l:=KM x) (λj n=>[((k:Int),(j:Int),n,decide ((j:Int)=Wq (((KM x).length:Int)-1)),())]) _ (λj n hj hk'=>?_) ?_
  ·have hl2:=ZeY (f:=λj n=>[((k:Int),(j:Int),n,decide ((j:Int)=Wq (((KM x).length:Int)-1)),())]) (c:=1) (l:=(KM x).take j) (m:=0) (λ_ _ _=>by simp)
   rw[Un] at hl2;simp only[Zaf,show (j:Int)<((KM x).length:Int) from by omega,Um,Zy,hj,Bq];rw[Zt (by rw[Ue,UP];omega),Vn (by omega)]
  ·simp only[Zaf,Uh,Uk]
   rw[Vn (by omega)];rfl
 ·have hl:=Zcr h (Kr d).length
  rw[Ut] at hl;simp only[Uv,Zah,Uh,Uk];refine JJ (l:=KB d) ZfU _ (λj p hj hk'=>?_) ?_
  ·have hl2:=ZeZ h j
   simp only[Zag,show (j:Int)<((KB d).length:Int) from by omega,Um,Zy,hj,Bq];rw[Zt (by rw[Ue,UP];omega),Vn (by omega)];rfl
  ·simp only[Zag,Uh,Uk];rfl
def Zh4 (net:Int) (i:Nat) (x:Pl):List Int:=if x.2.2.1=net then (if x.2.2.2.1=true then [] else [(i:Int)]) else []
def sinks (d:Zg) (net:Int):List Int:=cat (Zh4 net) 0 (places d)
theorem Zhk (net:Int) (l:List Pl) (m:Nat):(cat (Zh4 net) m l).length<=l.length:=by
 have:=ZeY (f:=Zh4 net) (c:=1) (l:=l) (m:=m) (λi x _=>by
  unfold Zh4;split
  ·split<;>simp
  ·simp)
 omega
theorem ZfC (d:Zg) (net:Int) (h:Few d):JU d net=some (sinks d net):=by
 have hp:=XQ h;unfold JU;rw[QU d h,Bq];refine JJ (l:=places d) (Zh4 net) [] (λk x hx hk=>?_) ?_
 ·have hl:=Zhk net ((places d).take k) 0
  rw[Un] at hl;simp only[Uv,VE,show (k:Int)<((places d).length:Int) from by omega,Um,Zy,hx,Bq,Zh4,Vn (show k<=1048576 by omega)];split
  ·split
   ·rw[Up]
   ·rw[Zt (by
     show (List.length _+1)*8<=_;have:(cat (Zh4 net) 0 ((places d).take k)).length<=78:=by omega
     omega)]
  ·rw[Up]
 ·simp only[Uv,VE,Uh,Uk];rfl
theorem ZeH (d:Zg) (net:Int) (h:Few d):ZbE d net=some (sinks d net):=by
 have hp:=XQ h;unfold ZbE;rw[Vs d h,Bq];refine JJ (l:=places d) (Zh4 net) [] (λk x hx hk=>?_) ?_
 ·have hl:=Zhk net ((places d).take k) 0
  rw[Un] at hl;simp only[Uv,ZaR,show (k:Int)<((places d).length:Int) from by omega,Um,Zy,hx,Bq,Zh4,Vn (show k<=1048576 by omega)];split
  ·split
   ·rw[Up]
   ·rw[Zt (by
     show (List.length _+1)*8<=_;have:(cat (Zh4 net) 0 ((places d).take k)).length<=78:=by omega
     omega)]
  ·rw[Up]
 ·simp only[Uv,ZaR,Uh,Uk];rfl
def loads (d:Zg):List Int:=((places d).filter (λx=>!x.2.2.2.1)).map (λx=>x.2.2.1)
theorem ZjJ (net:Int):∀ (l:List Pl) (m:Nat),(cat (Zh4 net) m l).length=((l.filter (λx=>!x.2.2.2.1)).map (λx=>x.2.2.1)).countP (λy=>decide (y=net))
 | [],m=>by simp[cat]
 | x::r,m=>by
  simp only[cat,Ue,ZjJ net r,Zh4];obtain ⟨a,b,n,dr,u⟩:=x;cases dr
  ·by_cases e:n=net
   ·simp[e,Nat.add_comm]
   ·simp[e]
  ·simp
theorem ZnO {w:ZH} (h:sm ZiL w):sm (.sl (.int .i64)) (Kw w)/\sm (.sl (.int .i64)) (K3 w)/\sm (.sl (.int .i64)) (Gj w)/\sm (.sl (.int .i64)) (K5 w):=by
 refine ⟨?_,?_,?_,?_⟩;all_goals first | exact h.1 | exact h.2.1 | exact h.2.2.1 | exact h.2.2.2.1
theorem ZmV {b:Zi} (h:sm Vu b):sm Qf (Gm b)/\sm XZ (Kq b)/\sm (.sl ZiL) (KN b):=by
 refine ⟨?_,?_,?_⟩;all_goals first | exact h.1 | exact h.2.1 | exact h.2.2.1 | exact h.2.2.2.1
def ZiZ (w:ZH) (k:Nat) (x:Int):Prop:=(k=0->x=-1/\(K3 w)[0]?=some 0)/\(0<k->0<=x/\x<=(k:Int)-1)
def ZeS (w:ZH) (s:Int):Prop :=
 (1<=(Kw w).length/\(Kw w).length<=8)/\(K3 w).length=(Kw w).length/\(Gj w).length=(Kw w).length/\((K5 w).length:Int)=s/\
 ZcN (Kw w) (ZiZ w)/\ZeO (K3 w) 0 1000/\ZeO (Gj w) 0 500/\ZeO (K5 w) 0 (((Kw w).length:Int)-1)
theorem Zdv (l:List Int) (lo hi:Int) (hl:l.length<=1048576):Y1 l lo hi=some (tr (ZeO l lo hi)):=by
 rw[JX l lo hi (by omega)];exact J9 (Zgq _ _ _)
theorem Zf6 (w:ZH) (hw:sm ZiL w) (h1:1<=(Kw w).length) (h2:(K3 w).length=(Kw w).length):Zar w=some (tr (ZcN (Kw w) (ZiZ w))):=by
 obtain ⟨a1,a2,a3,a4⟩:=ZnO hw;have s1:=Zw a1;unfold Zar;have hr:(K3 w)[0]?=some (K3 w)[0]:=Ub (by omega);rw[XJ (Yt a1) (ZiZ w) (bad:=false) (good:=true)
  (λk x hx hk _=>by
   simp only[V5,show (k:Int)<((Kw w).length:Int) from by omega,Um,Zy,hx,Bq];unfold ZiZ;by_cases hk0:k=0
   ·subst hk0
    rw[Uf (by rfl),show atI (K3 w) 0=some (K3 w)[0] from hr,hr];grind
   ·rw[Ug (by omega),Uf (by omega),YQ,Bq,Xa (by omega) (by omega)]
    constructor
    ·intro hh;rw[Uf (Yc (hh.2 (by omega)))]
    ·intro hh;rw[Ug (λq=>hh ⟨λh=>absurd h hk0,λ_=>(XD _).1 q⟩)])
  (λ_=>by simp only[V5,Uh,Uk]),Zhg]
theorem Zj5 (w:ZH) (s:Int) (hw:sm ZiL w):Zei w s=some (tr (ZeS w s)):=by
 obtain ⟨a1,a2,a3,a4⟩:=ZnO hw;have s1:=Zw a1;have s2:=Zw a2;have s3:=Zw a3;have s4:=Zw a4;unfold Zei;simp only[Zab,Bq,Xa (show (-9223372036854775808:Int)<=((Kw w).length:Int)-1 by omega) (by omega)];refine ZbS (Yw (YQ _ _ _) (λq1=>YZ (λq2=>YZ (λq3=>Yw (Zf6 w hw (by omega) (by omega)) (λq4=>Yw (Zdv _ _ _ s2) (λq5=>Yw (Zdv _ _ _ s3) (λq6=>YZ (λq7=>Zax (Zdv _ _ _ s4))))))))) ?_;unfold ZeS;grind
theorem Zm3 {l:List Int} {lo hi:Int}:ZeO l lo hi<->∀ (k:Nat) (x:Int),l[k]?=some x->lo<=x/\x<=hi:=by
 unfold ZeO;constructor
 ·intro h k x hx;exact h x (Ui hx)
 ·intro h x hx
  obtain ⟨k,hk⟩:=Uu.1 hx;exact h k x hk
theorem Zkd (w:ZH) (s:Int) (hw:sm ZiL w):Zew w s=some (tr (ZeS w s)):=by
 obtain ⟨a1,a2,a3,a4⟩:=ZnO hw;have s1:=Zw a1;have s2:=Zw a2;have s3:=Zw a3;have s4:=Zw a4;have e1:Wq (((Kw w).length:Int)-1)=((Kw w).length:Int)-1:=Xa (by omega) (by omega);unfold Zew;refine ZbS (Zdd (λq1=>Zdd (λq2=>YZ (λq3=>YZ (λq4=>YZ (λq5=>?_)))))) ?_
  (P:=¬((Kw w).length:Int)<1/\¬(8:Int)<((Kw w).length:Int)/\((K3 w).length:Int)=((Kw w).length:Int)/\((Gj w).length:Int)=((Kw w).length:Int)/\((K5 w).length:Int)=s/\
   (ZcN (Kw w) (λk x=>(∀ c,(Gj w)[k]?=some c->0<=c/\c<=500)/\(∀ r,(K3 w)[k]?=some r->0<=r/\r<=1000)/\ZiZ w k x)/\ZeO (K5 w) 0 (((Kw w).length:Int)-1)))
 ·rw[XJ (Yt a1) (λk x=>(∀ c,(Gj w)[k]?=some c->0<=c/\c<=500)/\(∀ r,(K3 w)[k]?=some r->0<=r/\r<=1000)/\ZiZ w k x) (bad:=false) (good:=tr (ZeO (K5 w) 0 (((Kw w).length:Int)-1)))
   (λk x hx hk _=>by
    have hc:(Gj w)[k]?=some (Gj w)[k]:=Ub (by omega);have hr:(K3 w)[k]?=some (K3 w)[k]:=Ub (by omega);simp only[Zb4,show (k:Int)<((Kw w).length:Int) from by omega,Um,Zy,hc,hr,hx,Bq,QB,Option.some.injEq,forall_eq'];generalize (Gj w)[k]=c at hc;generalize (K3 w)[k]=r at hr;by_cases qc:0<=c/\c<=500
    ·rw[Uf (Yc qc)]
     by_cases qr:0<=r/\r<=1000
     ·rw[Uf (Yc qr)]
      unfold ZiZ;by_cases hk0:k=0
      ·simp_all
      ·rw[Ug (by omega),Uf (by omega),Xa (show (-9223372036854775808:Int)<=(k:Int)-1 by omega) (by omega)]
       constructor
       ·intro hh;rw[Uf (Yc (hh.2.2.2 (by omega)))]
       ·intro hh;rw[Ug (λq=>hh ⟨qc,qr,λh=>absurd h hk0,λ_=>(XD _).1 q⟩)]
     ·rw[Ug (λq=>qr ((XD _).1 q))]
      grind
    ·rw[Ug (λq=>qc ((XD _).1 q))]
     grind)
   (λ_=>by
    simp only[Zb4,Uh,Uk];rw[XJ (Yt a4) (λ_ x=>0<=x/\x<=((Kw w).length:Int)-1) (bad:=.inr false) (good:=.inr true)
     (λk x hx hk _=>by
      simp only[Zb3,show (k:Int)<((K5 w).length:Int) from by omega,Um,Zy,hx,Bq,QB,e1];constructor
      ·intro hh;rw[Uf (Yc hh)]
      ·intro hh;rw[Ug (λq=>hh ((XD _).1 q))])
     (λ_=>by simp only[Zb3,Uh,Uk])]
    congr 1;have e:ZcN (K5 w) (λ_ x=>0<=x/\x<=((Kw w).length:Int)-1)<->ZeO (K5 w) 0 (((Kw w).length:Int)-1):=QL;by_cases hh:ZeO (K5 w) 0 (((Kw w).length:Int)-1)
    ·rw[YM (e.2 hh),Yc hh]
    ·rw[YA (λq=>hh (e.1 q)),ZM hh]),Zbp]
 ·unfold ZeS
  rw[Zm3 (l:=K3 w),Zm3 (l:=Gj w)];constructor
  ·rintro ⟨q1,q2,q3,q4,q5,q6,q7⟩
   refine ⟨⟨by omega,by omega⟩,by omega,by omega,q5,λk x hx=>(q6 k x hx).2.2,λk r hr=>?_,λk c hc=>?_,q7⟩
   ·have hk:=(Ua.1 hr).1
    exact (q6 k _ (Ub (by omega))).2.1 r hr
   ·have hk:=(Ua.1 hc).1
    exact (q6 k _ (Ub (by omega))).1 c hc
  ·rintro ⟨q1,q2,q3,q5,q6,q7,q8,q9⟩
   exact ⟨by omega,by omega,by omega,by omega,q5,λk x hx=>⟨λc hc=>q8 k c hc,λr hr=>q7 k r hr,q6 k x hx⟩,q9⟩
def Zhu (b:Zi):Prop :=
 Zb7 (Gm b) (Kq b)/\(KN b).length=(KI (Kq b)).length/\ZcN (KN b) (λk w=>ZeS w ((sinks (Kq b) (k:Int)).length:Int))
theorem Zl4 {a:Zz} {d:Zg} (h:Zb7 a d) {x:Pl} (hx:x∈places d):ZlC d x.2.2.1:=by
 unfold places at hx;rcases UC.1 hx with hx | hx
 ·obtain ⟨i,z,hi,hz⟩:=ZdV.1 hx
  unfold Zg5 at hz;obtain ⟨j,n,hj,hn⟩:=ZdV.1 hz;simp only[UO] at hn;subst hn;exact (h.2.2.1 z (Ui hi)).2.2 n (Ui hj)
 ·obtain ⟨j,p,hj,hp⟩:=ZdV.1 hx
  simp only[ZfU,UO] at hp;subst hp;exact (h.2.2.2.1 p (Ui hj)).2
theorem Zfk (b:Zi) (hb:sm Vu b):Zcv b=some (tr (Zhu b)):=by
 obtain ⟨a1,a2,a3⟩:=ZmV hb;have s3:=Zw a3;unfold Zcv;refine ZbS (Yw (ZiH _ _ a1 a2) (λhD=>YZ (λq1=>?_))) ?_
  (P:=Zb7 (Gm b) (Kq b)/\((KN b).length:Int)=((KI (Kq b)).length:Int)/\ZcN (KN b) (λk w=>ZeS w ((sinks (Kq b) (k:Int)).length:Int)))
 ·rw[XJ (Yt a3) (λk w=>ZeS w ((sinks (Kq b) (k:Int)).length:Int)) (bad:=false) (good:=true)
   (λk w hx hk _=>by
    simp only[Zbq,show (k:Int)<((KN b).length:Int) from by omega,Um,Zy,hx,Bq,ZeH _ _ hD.few,Zkd w _ (Zd5 a3 hx)];constructor
    ·intro hh;rw[Uf (Yc hh)]
    ·intro hh;rw[Ug (λq=>hh ((XD _).1 q))])
   (λ_=>by simp only[Zbq,Uh,Uk]),Zhg]
 ·unfold Zhu
  grind
theorem Zn7 {l:List Pl} {k:Nat} {x:Pl} (hx:l[k]?=some x) :
  (((l.take (k+1)).filter (λx=>!x.2.2.2.1)).map (λx=>x.2.2.1))=if x.2.2.2.1=true then (((l.take k).filter (λx=>!x.2.2.2.1)).map (λx=>x.2.2.1)) else (((l.take k).filter (λx=>!x.2.2.2.1)).map (λx=>x.2.2.1))++[x.2.2.1]:=by
 rw[Y3 hx,List.filter_append,List.map_append];grind
theorem Zdj (b:Zi) (hb:sm Vu b):ZaT b=some (tr (Zhu b)):=by
 obtain ⟨a1,a2,a3⟩:=ZmV hb;have s3:=Zw a3;unfold ZaT;refine ZbS (Yw (Ziz _ _ a1 a2) (λhD=>YZ (λq1=>?_))) ?_
  (P:=Zb7 (Gm b) (Kq b)/\((KN b).length:Int)=((KI (Kq b)).length:Int)/\ZcN (KN b) (λk w=>ZeS w ((sinks (Kq b) (k:Int)).length:Int)))
 ·rw[Zt (by omega),Zt (by omega),Zt (by omega),Zt (by omega),QU _ hD.few,Bq]
  have hpl:=XQ hD.few;have:=Jz (l:=places (Kq b)) (ρ:=Bool) (λk=>((k:Int),Ziv (KN b).length ((((places (Kq b)).take k).filter (λx=>!x.2.2.2.1)).map (λx=>x.2.2.1)),())) (step:=λv=>Jb b (places (Kq b)) v.1 v.2.1) (good:=tr (ZcN (KN b) (λk w=>ZeS w ((sinks (Kq b) (k:Int)).length:Int))))
   (λk x hx hk=>by
    have hn:=Zl4 hD (Ui hx);have hl1:=List.length_filter_le (λx:Pl=>!x.2.2.2.1) ((places (Kq b)).take k);rw[Un] at hl1;simp only[Jb,show (k:Int)<((places (Kq b)).length:Int) from by omega,Um,Zy,hx,Bq,Zn7 hx];by_cases hd:x.2.2.2.1=true
    ·rw[Uf hd,Uf hd,Vn (by omega)]
    ·rw[Ug hd,Ug hd,Ze0 hn.1 (by have:=hn.2;grind) (by grind) (F:=λo=>some (Sum.inl (Wq ((k:Int)+1),o,()))),Vn (by omega)])
   (by
    simp only[Jb,Uh,Uk,Ut];rw[XJ (Yt a3) (λk w=>ZeS w ((sinks (Kq b) (k:Int)).length:Int)) (bad:=.inr false) (good:=.inr true)
     (λk w hx hk _=>by
      have hc:(sinks (Kq b) (k:Int)).length=_:=ZjJ (k:Int) (places (Kq b)) 0;simp only[Zbe,show (k:Int)<((KN b).length:Int) from by omega,Um,Zy,hx,Bq];rw[ZiP hk,Bq,Zj5 w _ (Zd5 a3 hx),Bq,hc];constructor
      ·intro hh;rw[Uf (Yc hh)]
      ·intro hh;rw[Ug (λq=>hh ((XD _).1 q))])
     (λ_=>by simp only[Zbe,Uh,Uk])]
    congr 1;by_cases hh:ZcN (KN b) (λk w=>ZeS w ((sinks (Kq b) (k:Int)).length:Int))
    ·rw[YM hh,Yc hh]
    ·rw[YA hh,ZM hh])
  rw[List.take_zero,List.filter_nil,List.map_nil,Zk0] at this;exact this
 ·unfold Zhu
  grind
structure ZlA (b:Zi):Prop where
 ok:Zhu b
 sm:sm Vu b
theorem Zfc {α τ ρ:Type} {l:List α} (I:Nat->τ->Prop) (Q:ρ->Prop) {step:τ->Option (τ ⊕ ρ)} {v:τ} (h0:I 0 v)
  (hs:∀ (k:Nat) (x:α) (v:τ),l[k]?=some x->k<l.length->I k v->∃ v',step v=some (.inl v')/\I (k+1) v')
  (hx:∀ v,I l.length v->∃ r,step v=some (.inr r)/\Q r):∃ r,Zr step v=some r/\Q r :=
 Za0 l.length I Q h0 (λk v hk hI=>.inl (hs k l[k] v (Ub hk) hk hI)) hx
theorem ZkX {α:Type} {l:List α} {i:Int} (h0:0<=i) (h1:i<(l.length:Int)):∃ x,atI l i=some x/\x∈l:=by
 obtain ⟨x,h2,h3⟩:=Zic h0 h1;grind
theorem ZpR {a:Zz} {d:Zg} (h:Zb7 a d) {x:Pl} (hx:x∈places d):∃ n,JR d a x=some n:=by
 unfold JR;split
 ·exact ⟨_,rfl⟩
 ·rename_i hneg
  unfold places at hx;rcases UC.1 hx with hx | hx
  ·obtain ⟨i,z,hi,hz⟩:=ZdV.1 hx
   unfold Zg5 at hz;obtain ⟨j,n,hj,hn⟩:=ZdV.1 hz;simp only[UO] at hn;subst hn;rw[UB] at hneg;obtain ⟨hc,⟨c,hc1,hc2⟩,_⟩:=h.2.2.1 z (Ui hi);have hj2:=(Ua.1 hj).1;simp only[GE,YL.pin,UB,Zy,hi,Bq];rw[Za5 hc.1 hc1,Bq];grind
  ·obtain ⟨j,p,hj,hp⟩:=ZdV.1 hx
   simp only[ZfU,UO] at hp;grind
theorem ZpF {d:Zg} {net y:Int} (h:y∈sinks d net):0<=y/\y<((places d).length:Int):=by
 obtain ⟨k,x,hk,hy⟩:=ZdV.1 h;have:=(Ua.1 hk).1;unfold Zh4 at hy;grind
theorem Zg9 {b:Zi} (h:ZlA b) {k:Nat} {w:ZH} (hw:(KN b)[k]?=some w):∃ r,X0 b (k:Int)=some r/\r.length=(Kw w).length:=by
 have hW:=h.ok.2.2 k w hw;have hD:=h.ok.1;have hf:=hD.few;obtain ⟨⟨l1,l8⟩,lr,lc,ls,ht,ar,ac,asn⟩:=hW;have hpl:=XQ hf;have hsl:=Zhk (k:Int) (places (Kq b)) 0;have hsl2:(sinks (Kq b) (k:Int)).length<=78:=by unfold sinks;omega
 unfold X0;rw[Zy,hw,Bq];unfold Va;rw[Zt (by simp;omega),Bq,QU _ hf,Bq,ZfC _ _ hf,Bq];refine Zfc (l:=sinks (Kq b) (k:Int)) (λm v=>v.1=(m:Int)/\v.2.1.length=(Kw w).length) _ ⟨rfl,by simp;omega⟩ ?_ ?_
 ·rintro m y ⟨i,l,⟨⟩⟩ hy hm ⟨hi,hl⟩
  simp only at hi hl;subst hi;have hz:(K5 w)[m]?=some (K5 w)[m]:=Ub (by omega);generalize (K5 w)[m]=z at hz;have hz2:=asn z (Ui hz);obtain ⟨q,hq1,_⟩:=ZkX (l:=l) hz2.1 (by omega);obtain ⟨hy1,hy2⟩:=ZpF (Ui hy);obtain ⟨p,hp1,hp2⟩:=ZkX hy1 hy2;obtain ⟨c,hc⟩:=ZpR hD hp2;simp only[QG,show (m:Int)<((sinks (Kq b) (k:Int)).length:Int) from by omega,Um,Zy,hy,hz,Bq,hq1,hp1,hc];exact ⟨_,rfl,by rw[Vn (by omega)],by simp[hl]⟩
 ·rintro ⟨i,l,⟨⟩⟩ ⟨hi,hl⟩
  simp only at hi hl;subst hi;simp only[QG,Uh,Uk];have:=ZkK (σ:=Int×List Int×Unit) (ρ:=(Int×List Int×Unit) ⊕ List Int) (step:=λv=>QF w v.1 v.2.1) (λv=>(∃ j:Nat,v.1=(j:Int)/\j<(Kw w).length)/\v.2.1.length=(Kw w).length) (λv=>v.1.toNat) (λr=>∃ r',r=.inr r'/\r'.length=(Kw w).length) (v:=(Wq ((l.length:Int)-1),l,()))
   ⟨⟨l.length-1,by show Wq _=_;rw[Zib (by omega) (by omega)],by omega⟩,hl⟩
   (by
    rintro ⟨i,l,⟨⟩⟩ ⟨⟨j,hj,hj2⟩,hl⟩;simp only at hj hl;subst hj;simp only[QF];by_cases h0:(0:Int)<(j:Int)
    ·rw[Uf h0]
     have hp:(Kw w)[j]?=some (Kw w)[j]:=Ub (by omega);generalize (Kw w)[j]=p at hp;have hp2:=(ht j p hp).2 (by omega);obtain ⟨q,hq1,_⟩:=ZkX (l:=l) hp2.1 (by omega);have hl2:l[j]?=some l[j]:=Ub (by omega);simp only[Zy,hp,Bq,hq1,hl2];left;refine ⟨_,rfl,⟨⟨j-1,by rw[Zib (by omega) (by omega)],by omega⟩,by simp[hl]⟩,?_⟩;show (Wq ((j:Int)-1)).toNat<((j:Int)).toNat;rw[Zib (by omega) (by omega)];omega
    grind)
  grind
theorem Zi8 {b:Zi} (h:ZlA b) {k:Nat} {w:ZH} (hw:(KN b)[k]?=some w):∃ r,Qz b (k:Int)=some r/\r.length<=1048576:=by
 have hW:=h.ok.2.2 k w hw;obtain ⟨⟨l1,l8⟩,lr,lc,ls,ht,ar,ac,asn⟩:=hW;obtain ⟨nl,hnl,hnl2⟩:=Zg9 h hw;have hsm:=Zw (ZnO (Zd5 (ZmV h.sm).2.2 hw)).2.2.2;have hnd:∃ r,QT b (k:Int)=some r/\r.length=(Kw w).length:=by
  unfold QT;rw[Zy,hw,Bq,hnl,Bq,Zt (by omega),Zt (by omega),Zt (by omega),Zt (by omega)];refine Za0 ((Kw w).length-1) (λm v=>v.1=((m+1:Nat):Int)/\v.2.1.length=(Kw w).length) _ ⟨rfl,by simp[hnl2]⟩ ?_ ?_
  ·rintro m ⟨i,l,⟨⟩⟩ hm ⟨hi,hl⟩
   simp only at hi hl;subst hi;left;have hp:(Kw w)[m+1]?=some (Kw w)[m+1]:=Ub (by omega);generalize (Kw w)[m+1]=p at hp;have hp2:=(ht (m+1) p hp).2 (by omega);obtain ⟨q,hq1,_⟩:=ZkX (l:=l) hp2.1 (by omega);have hr:(K3 w)[m+1]?=some (K3 w)[m+1]:=Ub (by omega);have hn:nl[m+1]?=some nl[m+1]:=Ub (by omega);have hl2:l[m+1]?=some l[m+1]:=Ub (by omega);simp only[Qq,show ((m+1:Nat):Int)<(l.length:Int) from by omega,Um,Zy,hp,hq1,hr,hn,hl2,Bq];exact ⟨_,rfl,by rw[Vn (by omega)],by simp[hl]⟩
  ·rintro ⟨i,l,⟨⟩⟩ ⟨hi,hl⟩
   simp only at hi hl;subst hi;simp only[Qq,show ¬(((Kw w).length-1+1:Nat):Int)<(l.length:Int) from by omega,Uk];exact ⟨_,rfl,hl⟩
 obtain ⟨nd,hnd,hnd2⟩:=hnd;unfold Qz;rw[hnd,Bq,Zy,hw,Bq];refine Zfc (l:=K5 w) (λm v=>v.1.length=m/\v.2.1=(m:Int)) _ ⟨rfl,rfl⟩ ?_ ?_
 ·rintro m y ⟨o,i,⟨⟩⟩ hy hm ⟨ho,hi⟩
  simp only at hi ho;subst hi;have hz2:=asn y (Ui hy);obtain ⟨q,hq1,_⟩:=ZkX (l:=nd) hz2.1 (by omega);simp only[Qb,show (m:Int)<((K5 w).length:Int) from by omega,Um,Zy,hy,hq1,Bq];rw[Zt (by simp;omega)];exact ⟨_,rfl,by simp[ho],by rw[Vn (by omega)]⟩
 ·rintro ⟨o,i,⟨⟩⟩ ⟨ho,hi⟩
  simp only at hi ho;subst hi;simp only[Qb,Uh,Uk];exact ⟨_,rfl,by omega⟩
theorem ZjU (a:ZL):∃ r,Ve a=some r/\r.length<=4:=by
 unfold Ve;repeat' split
 all_goals exact ⟨_,rfl,by simp⟩
theorem ZkY {b:Zi} (h:ZlA b) {x:Zo} (hx:x∈Kr (Kq b)) (f:Int):∃ r,Vf b x f=some r/\r.length<=32:=by
 obtain ⟨hc,⟨c,hc1,hc2⟩,_⟩:=h.ok.1.2.2.1 x hx;have hA:=(h.ok.1.1.2.1 c (Ui hc1)).2.2.1.1;unfold Vf;rw[Za5 hc.1 hc1,Bq];refine Zfc (l:=KD c) (λm v=>v.1.length<=4*m/\v.2.1=(m:Int)) _ ⟨by simp,rfl⟩ ?_ ?_
 ·rintro m y ⟨o,i,⟨⟩⟩ hy hm ⟨ho,hi⟩
  simp only at hi ho;subst hi;obtain ⟨ts,ht1,ht2⟩:=ZjU y;simp only[QE,show (m:Int)<((KD c).length:Int) from by omega,Um,Zy,hy,ht1,Bq];obtain ⟨r,hr1,r',rfl,hr2⟩:=Zfc (l:=ts) (ρ:=(List Vm×Int×Unit) ⊕ List Vm) (step:=λv=>Xu f (m:Int) y ts v.1 v.2.1) (v:=(o,(0:Int),())) (λn v=>v.1.length=o.length+n/\v.2.1=(n:Int)) (λr=>∃ r',r=.inl r'/\r'.1.length<=4*(m+1)/\r'.2.1=((m+1:Nat):Int)) ⟨rfl,rfl⟩
   (by
    rintro n z ⟨o2,i,⟨⟩⟩ hz hn ⟨ho2,hi⟩;simp only at hi ho2;subst hi;simp only[Xu,show (n:Int)<(ts.length:Int) from by omega,Um,Zy,hz,Bq];rw[Zt (by simp;omega)];exact ⟨_,rfl,by simp[ho2];omega,by rw[Vn (by omega)]⟩)
   (by
    rintro ⟨o2,i,⟨⟩⟩ ⟨ho2,hi⟩;simp only at hi ho2;subst hi;simp only[Xu,Uh,Uk];exact ⟨_,rfl,_,rfl,by simp only;omega,by rw[Vn (by omega)]⟩)
  exact ⟨r',hr1,hr2⟩
 ·rintro ⟨o,i,⟨⟩⟩ ⟨ho,hi⟩
  simp only at hi ho;subst hi;simp only[QE,Uh,Uk];exact ⟨_,rfl,by omega⟩
def Short (l:List (List Int)) (n m:Nat):Prop:=l.length=n/\∀ x∈l,x.length<=m
theorem Short.set {l:List (List Int)} {n m:Nat} (h:Short l n m) {x:List Int} (hx:x.length<=m) (i:Nat):Short (l.set i x) n m:=by
 refine ⟨by simp[h.1],λy hy=>?_⟩;rcases List.mem_or_eq_of_mem_set hy with hy | rfl
 ·exact h.2 y hy
 ·exact hx
theorem Short.mono {l:List (List Int)} {n m p:Nat} (h:Short l n m) (hp:m<=p):Short l n p:=⟨h.1,λx hx=>U9 (h.2 x hx) hp⟩
theorem Zjy {b:Zi} (h:ZlA b):∃ v,ZaU b=some v/\KG v=places (Kq b)/\GL v=b:=by
 have hD:=h.ok.1;have hf:=hD.few;have hpl:=XQ hf;have h14:=hf.insts;have hwn:=h.ok.2.1;have h30:=hD.2.1.2.1;unfold ZaU;rw[QU _ hf,Bq];refine Zfc (l:=Kr (Kq b)) (λk v=>v.2.1=(k:Int)/\v.2.2.1.length<=32*k) _ ⟨rfl,by simp⟩ ?_ ?_
 ·rintro k x ⟨n,i,c,⟨⟩⟩ hx hk ⟨hi,hc⟩
  simp only at hi hc;subst hi;obtain ⟨r,hr1,hr2⟩:=ZkY h (Ui hx) n;simp only[Zbg,show (k:Int)<((Kr (Kq b)).length:Int) from by omega,Um,Zy,hx,hr1,Bq,Zab];rw[Zt (by omega)];exact ⟨_,rfl,by simp only;rw[Vn (by omega)],by simp only[Ue];omega⟩
 ·rintro ⟨n,i,c0,⟨⟩⟩ ⟨hi,hc0⟩
  simp only at hi hc0;subst hi;simp only[Zbg,Uh,Uk];rw[Zt (by omega),Zt (by omega),Zt (by omega),Zt (by omega),Zt (by omega)];obtain ⟨r,hr1,r',rfl,hr2⟩:=Zfc (l:=places (Kq b)) (ρ:=(Int×Int×List Vm×Unit) ⊕ Yr) (step:=λv=>Jg b (places (Kq b)) c0 v.1 v.2.1 v.2.2.1) (v:=((0:Int),List.replicate (Int.toNat (↑(List.length (KN b)):Int)) (0:Int),List.replicate (Int.toNat (↑(List.length (KN b)):Int)) (([]:List Int)),()))
   (λk v=>v.1=(k:Int)/\v.2.1.length=(KN b).length/\Short v.2.2.1 (KN b).length k)
   (λr=>∃ r',r=.inr r'/\KG r'=places (Kq b)/\GL r'=b)
   ⟨rfl,by simp,by simp,by
    intro x hx;rw[List.mem_replicate] at hx;rw[hx.2];simp⟩
   (by
    rintro k x ⟨i,l0,l1,⟨⟩⟩ hx hk ⟨hi,h0,h1⟩;simp only at hi h0 h1;subst hi;have hn:=Zl4 hD (Ui hx);have hn1:=hn.2;simp only[Jg,show (k:Int)<((places (Kq b)).length:Int) from by omega,Um,Zy,hx,Bq];obtain ⟨q,hq1,_⟩:=ZkX (l:=l0) hn.1 (by omega);obtain ⟨p,hp1,hp2⟩:=ZkX (l:=l1) hn.1 (by have:=h1.1;omega);have hp3:=h1.2 p hp2;split
    ·rw[show atI l0 (YL.net x)=some q from hq1,Bq]
     exact ⟨_,rfl,by simp only;rw[Vn (by omega)],by simp[h0],h1.mono (by omega)⟩
    ·rw[show atI l1 (YL.net x)=some p from hp1,Bq,Zt (by simp;omega)]
     exact ⟨_,rfl,by simp only;rw[Vn (by omega)],h0,(h1.mono (by omega)).set (by simp;omega) _⟩)
   (by
    rintro ⟨i,l0,l1,⟨⟩⟩ ⟨hi,h0,h1⟩;simp only at hi h0 h1;subst hi;simp only[Jg,Uh,Uk];obtain ⟨r,hr1,r',rfl,hr2⟩:=Zfc (l:=KN b) (ρ:=(Int×List Int×List (List Int)×Unit) ⊕ ((Int×Int×List Vm×Unit) ⊕ Yr)) (step:=λv=>Jf b (places (Kq b)) l0 v.1 v.2.1 v.2.2.1 v.2.2.2.1 v.2.2.2.2.1) (v:=((0:Int),([]:List Int),([]:List (List Int)),c0,l1,()))
     (λk v=>v.1=(k:Int)/\v.2.1.length=k/\v.2.2.1.length=k/\v.2.2.2.1.length<=448+156*k/\Short v.2.2.2.2.1 (KN b).length 78)
     (λr=>∃ r',r=.inr (.inr r')/\KG r'=places (Kq b)/\GL r'=b)
     ⟨rfl,rfl,rfl,by simp only;omega,h1.mono (by omega)⟩
     (by
      rintro k w ⟨i,c1,c2,c3,l2,⟨⟩⟩ hw hk ⟨hi,g1,g2,g3,g4⟩;simp only at hi g1 g2 g3 g4;subst hi;obtain ⟨nl,hnl,hnl2⟩:=Zg9 h hw;obtain ⟨ed,hed,hed2⟩:=Zi8 h hw;have hpar:=(h.ok.2.2 k w hw).1.1;have hn0:atI nl (0:Int)=some nl[0]:=(show nl[0]?=some nl[0] from Ub (by omega));obtain ⟨x1,hl2⟩:∃ x1,l2[k]?=some x1:=⟨_,Ub (by have:=g4.1;omega)⟩;have hx1:=g4.2 x1 (Ui hl2);simp only[Jf,show (k:Int)<((KN b).length:Int) from by omega,Um,hnl,hn0,hed,Bq,Zy,hl2];rw[Zt (by simp;omega),Zt (by simp;omega)];obtain ⟨r,hr1,r',rfl,hr2⟩:=Zfc (l:=x1) (ρ:=(Int×List Int×List (List Int)×List Vm×List (List Int)×Unit) ⊕ ((Int×List Int×List (List Int)×Unit) ⊕ ((Int×Int×List Vm×Unit) ⊕ Yr))) (step:=λv=>Je l0 (k:Int) c1 c2 l2 nl[0] ed x1 v.1 v.2.1) (v:=((0:Int),c3,()))
       (λm v=>v.1=(m:Int)/\v.2.1.length=c3.length+2*m)
       (λr=>∃ r',r=.inl r'/\r'.1=((k+1:Nat):Int)/\r'.2.1.length=k+1/\r'.2.2.1.length=k+1/\r'.2.2.2.1.length<=448+156*(k+1)/\Short r'.2.2.2.2.1 (KN b).length 78)
       ⟨rfl,rfl⟩
       (by
        rintro m y ⟨i,c4,⟨⟩⟩ hy hm ⟨hi,gc⟩;simp only at hi gc;subst hi;simp only[Je,show (m:Int)<(x1.length:Int) from by omega,Um,Zy,hy,Bq];have hl0:l0[k]?=some l0[k]:=Ub (by omega);generalize l0[k]=z at hl0;obtain ⟨r,hr1,r',rfl,hr2⟩:=Za0 (step:=λv=>Jd l0 (k:Int) (m:Int) y v.1 v.2.1) 2 (λj v=>v.1=(j:Int)/\v.2.1.length=c4.length+j) (λr=>∃ r',r=.inl r'/\r'.1=((m+1:Nat):Int)/\r'.2.1.length=c4.length+2) (v:=((0:Int),c4,())) ⟨rfl,rfl⟩
         (by
          rintro j ⟨i,c5,⟨⟩⟩ hj ⟨hi,hc5⟩;simp only at hi hc5;subst hi;left;simp only[Jd,show (j:Int)<(2:Int) from by omega,Um,Zy,hl0,Bq];rw[Zt (by simp;omega)];exact ⟨_,rfl,by simp only;rw[Vn (by omega)],by simp[hc5];omega⟩)
         (by
          rintro ⟨i,c5,⟨⟩⟩ ⟨hi,hc5⟩;simp only at hi hc5;subst hi;simp only[Jd,show ¬((2:Nat):Int)<(2:Int) from by omega,Uk];exact ⟨_,rfl,_,rfl,by simp only;rw[Vn (by omega)],hc5⟩)
        exact ⟨r',hr1,hr2.1,by rw[hr2.2];omega⟩)
       (by
        rintro ⟨i,c4,⟨⟩⟩ ⟨hi,gc⟩;simp only at hi gc;subst hi;simp only[Je,Uh,Uk];exact ⟨_,rfl,_,rfl,by simp only;rw[Vn (by omega)],by simp[g1],by simp[g2],by simp only;omega,g4.set hx1 _⟩)
      exact ⟨r',hr1,hr2⟩)
     (by
      rintro ⟨i,c1,c2,c3,l2,⟨⟩⟩ ⟨hi,g1,g2,g3,g4⟩;simp only at hi;subst hi;simp only[Jf,Uh,Uk];exact ⟨_,rfl,_,rfl,rfl,rfl⟩)
    exact ⟨_,hr1,_,rfl,hr2⟩)
  exact ⟨r',hr1,hr2⟩
def ZoB (e l:Int):Prop:=100<=e/\e<=l/\l<=5000
def Zeb (c:ZB):Prop:=Vw (KW c)=true/\ZoB (GB c) (GC c)/\ZoB (GH c) (GI c)
theorem Zro {c:ZB} (h:sm Zaj c):(KW c).length<=4611686018427387904:=by
 refine Zdp ?_;first | exact h.1 | exact h.2.1
theorem Zgs (e l:Int):Jv e l=some (tr (ZoB e l)):=by
 unfold Jv ZoB;exact YZ (λ_=>YZ (λ_=>J9 Kj))
theorem Ziy (c:ZB):ZcW c=some (tr (Zeb c)):=by
 unfold ZcW;exact Yw (by rw[ZdT];exact J9 Iff.rfl) (λ_=>Yw (Zgs _ _) (λ_=>Zax (Zgs _ _)))
theorem ZiG (c:ZB) (h:sm Zaj c):ZcZ c=some (tr (Zeb c)):=by
 unfold ZcZ;rw[XJ (l:=[GB c,GC c,GH c,GI c]) (show List.length _<=_ by simp) (λ_ x=>(100:Int)<=x/\x<=5000) (bad:=false) (good:=tr (Vw (KW c)=true/\GB c<=GC c/\GH c<=GI c))
  (λk x hx hk _=>by
   simp only[ZaH,show (k:Int)<((List.length [GB c,GC c,GH c,GI c]:Nat):Int) from by omega,Um,Zy,hx,Bq,QB];constructor
   ·intro hh;rw[Uf (Yc hh)]
   ·intro hh;rw[Ug (λq=>hh ((XD _).1 q))])
  (λ_=>by
   simp only[ZaH,Uh,Uk,JD _ (Zro h),Bq];by_cases a:Vw (KW c)=true
   ·rw[Uf a]
    by_cases b:GB c<=GC c
    ·rw[Uf b]
     congr 2;exact (ZiM (by grind)).symm
    ·rw[Ug b,ZM (λq=>b q.2.1)]
   ·rw[Ug a,ZM (λq=>a q.1)]),Zbp]
 congr 1;refine YG ?_;rw[QL];simp only[Uo,UI,U0,forall_eq_or_imp,forall_eq];unfold Zeb ZoB;grind
def ZeP (l:List ZB):Prop:=l.length<=4/\(∀ c∈l,Zeb c)/\Qa (l.map KW) l.length
theorem Zhn (l:List ZB) (h:sm (.sl Zaj) l):ZbK l=some (tr (ZeP l)):=by
 have hs:=Zw h;unfold ZbK;rw[XJ (Yt h) (λk c=>Zeb c/\∀ (j:Nat) (q:ZB),j<k->l[j]?=some q->KW q≠KW c) (bad:=false) (good:=tr (l.length<=4))
  (λk c hx hk _=>by
   simp only[JH,show (k:Int)<(l.length:Int) from by omega,Um,Zy,hx,Bq,ZiG c (Zd5 h hx)];by_cases hC:Zeb c
   ·rw[Uf (Yc hC),Zf7 (f:=KW) (l:=l) (x:=c) (k:=k) (by omega) (by omega) (bad:=.inr false) (good:=.inl (Wq ((k:Int)+1),()))
     (λj y hj hy=>by
      simp only[JG,show (j:Int)<(k:Int) from by omega,Um,Zy,hy,Bq];split<;>rfl)
     (by simp only[JG,Uh,Uk])]
    constructor
    ·intro hh;rw[YM hh.2]
    ·intro hh;rw[YA (λq=>hh ⟨hC,q⟩)]
   ·rw[Ug (by rw[ZM hC];simp)]
    exact ⟨λhh=>absurd hh.1 hC,λ_=>rfl⟩)
  (λ_=>by
   simp only[JH,Uh,Uk];congr 2;exact (ZiM (by rw[Uq];omega)).symm)]
 rw[Zbp];congr 1;refine YG ?_;unfold ZeP;rw[Zjw,<-QL];constructor
 ·rintro ⟨q,q8⟩
  exact ⟨q8,λk x hx=>(q k x hx).1,λk x hx=>⟨(q k x hx).1.1,(q k x hx).2⟩⟩
 ·rintro ⟨q8,q1,q2⟩
  exact ⟨λk x hx=>⟨q1 k x hx,(q2 k x hx).2⟩,q8⟩
theorem ZfD (l:List ZB) (h:sm (.sl Zaj) l) (h0:l.length≠0):JV l=some (tr (ZeP l)):=by
 have hs:=Zw h;unfold JV;have hlen:(l.map KW).length=l.length:=by simp
 have:=Zen (l:=l) (ρ:=Bool) (λk=>((l.map KW).take k,(k:Int),())) (λ_ c=>Zeb c) (step:=λv=>Xh l v.1 v.2.1) (bad:=false) (good:=tr (l.length<=4/\Qa (l.map KW) l.length))
  (λk c hx hk _=>by
   have hn:(l.map KW)[k]?=some (KW c):=by simp[hx]
   simp only[Xh,show (k:Int)<(l.length:Int) from by omega,Um,Zy,hx,Bq,Ziy c];rw[Zt (by simp only[Un,UP,List.length_map];omega),Y3 hn,Vn (by omega)];constructor
   ·intro hh;rw[Uf (Yc hh)]
   ·intro hh;rw[Ug (by rw[ZM hh];simp)])
  (λhA=>by
   have e0:(l.map KW).take l.length=l.map KW:=by rw[<-hlen,Ut]
   simp only[Xh,Uh,Uk,e0,show VG l=some (l.length:Int) from rfl,Bq,YQ];by_cases h4:l.length<=4
   ·rw[Uf (Yc (by omega)),XU _ (by rw[hlen];omega),Bq,hlen]
    congr 2;exact YG ⟨λq=>⟨h4,q⟩,λq=>q.2⟩
   ·rw[Ug (λq=>h4 (by have:=(XD _).1 q;omega)),ZM (λq=>h4 q.1)])
 refine (show Zr (λv=>Xh l v.1 v.2.1) (([]:List (List UInt8)),(0:Int),())=_ from this).trans ?_;rw[Zbp];congr 1;refine YG ?_;rw[QL];exact ⟨λq=>⟨q.2.1,q.1,q.2.2⟩,λq=>⟨q.2.1,q.1,q.2.2⟩⟩
def Zmt (k v:Int):Prop:=(k=1/\v=0)\/(k=2/\1<=v/\v<=10)\/((k=3\/k=4)/\0<=v/\v<=1000000000)
def Zms (n:Nat) (l:List Int):Prop:=l.length<=4/\ZeO l 0 ((n:Int)-1)
def ZiY (n:Nat) (e:Zk):Prop:=Zms n (Gp e)/\Zms n (Gn e)/\Zms n (Gz e)/\Inc (Gp e)/\Inc (Gz e)/\Zmt (Gk e) (Gu e)
theorem Zs4 {e:Zk} (h:sm Qo e):sm (.sl (.int .i64)) (Gp e)/\sm (.sl (.int .i64)) (Gn e)/\sm (.sl (.int .i64)) (Gz e):=by
 refine ⟨?_,?_,?_⟩;all_goals first | exact h.1 | exact h.2.1 | exact h.2.2.1 | exact h.2.2.2.1 | exact h.2.2.2.2.1
theorem Zjr (k v:Int):ZdF k v=some (tr (Zmt k v)):=by
 unfold ZdF Zmt;simp only[YQ,Bq];by_cases k1:k=1
 ·rw[Uf k1];exact J9 (by rw[Uq];omega)
 rw[Ug k1];by_cases k2:k=2
 ·rw[Uf k2];congr 1;exact YG (by omega)
 rw[Ug k2];by_cases k3:k=3
 ·rw[Uf k3,Uf k3];congr 1;exact YG (by omega)
 rw[Ug k3];by_cases k4:k=4
 ·rw[Uf k4];congr 1;exact YG (by omega)
 ·rw[Ug k4,ZM (by omega)]
theorem Zd0 (v:Yr) (e:Zk) (h:sm Qo e) (hn:(KG v).length<=1048576):XI v e=some (tr (ZiY (KG v).length e)):=by
 obtain ⟨a1,a2,a3⟩:=Zs4 h;have e1:Wq (((KG v).length:Int)-1)=((KG v).length:Int)-1:=Xa (by omega) (by omega);unfold XI;rw[XJ (l:=[Gp e,Gn e,Gz e]) (show List.length _<=_ by simp) (λ_ x=>Zms (KG v).length x) (bad:=false) (good:=tr (Zmt (Gk e) (Gu e)/\Inc (Gp e)/\Inc (Gz e)))
  (λk x hx hk _=>by
   have hxs:x.length<=1048576:=by
    have:=Ui hx;simp only[Uo,UI,U0] at this;rcases this with rfl | rfl | rfl
    ·exact Zw a1
    ·exact Zw a2
    ·exact Zw a3
   simp only[Qs,show (k:Int)<((List.length [Gp e,Gn e,Gz e]:Nat):Int) from by omega,Um,Zy,hx,Bq,show YB (KG v)=some ((KG v).length:Int) from rfl,e1,Zdv x _ _ hxs];unfold Zms;by_cases h4:(4:Int)<(x.length:Int)
   ·rw[Uf h4]
    exact ⟨λhh=>by omega,λ_=>rfl⟩
   ·rw[Ug h4]
    constructor
    ·intro hh;rw[Uf (Yc hh.2)]
    ·intro hh;rw[Ug (λq=>hh ⟨by omega,(XD _).1 q⟩)])
  (λ_=>by
   simp only[Qs,Uh,Uk,Zjr,Bq,Zaa _ (Yt (t:=.int .i64) a1),Zaa _ (Yt (t:=.int .i64) a3)];by_cases q1:Zmt (Gk e) (Gu e)
   ·rw[Uf (Yc q1)]
    by_cases q2:Inc (Gp e)
    ·rw[Uf (Yc q2)]
     congr 2;exact YG ⟨λq=>⟨q1,q2,q⟩,λq=>q.2.2⟩
    ·rw[Ug (λq=>q2 ((XD _).1 q)),ZM (λq=>q2 q.2.1)]
   ·rw[Ug (λq=>q1 ((XD _).1 q)),ZM (λq=>q1 q.1)]),Zbp]
 congr 1;refine YG ?_;rw[QL];simp only[Uo,UI,U0,forall_eq_or_imp,forall_eq];unfold ZiY;exact ⟨λ⟨⟨q1,q2,q3⟩,q4,q5,q6⟩=>⟨q1,q2,q3,q5,q6,q4⟩,λ⟨q1,q2,q3,q5,q6,q4⟩=>⟨⟨q1,q2,q3⟩,q4,q5,q6⟩⟩
theorem ZsP {l:List Int}:Inc l<->ZcN l (λk x=>∀ y,0<k->l[k-1]?=some y->y<x):=by
 constructor
 ·intro h k x hx y hk hy
  exact h (k-1) y x hy (by rw[show k-1+1=k by omega];exact hx)
 ·intro h k x y hx hy
  exact h (k+1) y hy x (by omega) hx
theorem Zb6 (b:Zi) (hf:Few (Kq b)) (l:List Int) (srt:Bool) (h:sm (.sl (.int .i64)) l):V4 b l srt=some (tr (Zms (places (Kq b)).length l/\(srt=true->Inc l))):=by
 have hs:=Zw h;have hpl:=XQ hf;have e1:Wq (((places (Kq b)).length:Int)-1)=((places (Kq b)).length:Int)-1:=Xa (by omega) (by omega);have hcnt:Zc4 b=some ((places (Kq b)).length:Int):=by unfold Zc4;rw[Vs _ hf];rfl
 unfold V4;rw[XJ (Yt h) (λk x=>(0<=x/\x<=((places (Kq b)).length:Int)-1)/\(srt=true->∀ y,0<k->l[k-1]?=some y->y<x)) (bad:=false) (good:=tr (l.length<=4))
  (λk x hx hk _=>by
   simp only[Zai,show (k:Int)<(l.length:Int) from by omega,Um,Zy,hx,Bq,hcnt,QB,e1];by_cases hb:0<=x/\x<=((places (Kq b)).length:Int)-1
   ·rw[Uf (Yc hb)]
    cases srt
    ·simp only[UN,Uk]
     exact ⟨λ_=>trivial,λhh=>absurd ⟨hb,λq=>by cases q⟩ hh⟩
    ·simp only[Um]
     by_cases h0:(0:Int)<(k:Int)
     ·obtain ⟨y,hy⟩:∃ y,l[k-1]?=some y:=⟨_,Ub (by omega)⟩
      rw[Uf h0,Zib (by omega) (by omega),Zy,hy,Bq];constructor
      ·intro hh
       rw[Ug];have:=hh.2 trivial y (by omega) rfl;omega
      ·intro hh
       rw[Uf];apply UQ;intro hlt;refine hh ⟨hb,λ_ y' _ hy'=>?_⟩;injection hy' with hy'
       have:¬x<=y:=hlt;omega
     ·rw[Ug h0]
      exact ⟨λ_=>rfl,λhh=>absurd ⟨hb,λ_ y hk0=>by omega⟩ hh⟩
   ·rw[Ug (λq=>hb ((XD _).1 q))]
    exact ⟨λhh=>absurd hh.1 hb,λ_=>rfl⟩)
  (λ_=>by
   simp only[Zai,Uh,Uk];congr 2;exact (ZiM (by rw[Uq];omega)).symm),Zbp]
 congr 1;refine YG ?_;unfold Zms;rw[ZsP];constructor
 ·rintro ⟨q1,q2⟩
  exact ⟨⟨q2,QL.1 (λk x hx=>(q1 k x hx).1)⟩,λhs k x hx=>(q1 k x hx).2 hs⟩
 ·rintro ⟨⟨q2,q1⟩,q3⟩
  exact ⟨λk x hx=>⟨q1 x (Ui hx),λhs=>q3 hs k x hx⟩,q2⟩
theorem Zgh (b:Zi) (h:ZlA b) (e:Zk) (he:sm Qo e):Zas b e=some (tr (ZiY (places (Kq b)).length e)):=by
 obtain ⟨a1,a2,a3⟩:=Zs4 he;have hf:=h.ok.1.few;unfold Zas;rw[Zfk b h.sm,Bq,Uf (Yc h.ok)];refine ZbS (Yw (Zb6 b hf _ _ a1) (λ_=>Yw (Zb6 b hf _ _ a2) (λ_=>Yw (Zb6 b hf _ _ a3) (λ_=>(?_:_=some (tr (Zmt (Gk e) (Gu e)))))))) ?_
 ·unfold Zmt
  simp only[QB,Bq];by_cases k1:Gk e=1
  ·rw[Uf k1];exact J9 (by rw[Uq];omega)
  rw[Ug k1];by_cases k2:Gk e=2
  ·rw[Uf k2];congr 1;exact YG (by omega)
  rw[Ug k2];by_cases k3:Gk e=3
  ·rw[Uf k3,Uf k3];congr 1;exact YG (by omega)
  rw[Ug k3];by_cases k4:Gk e=4
  ·rw[Uf k4];congr 1;exact YG (by omega)
  ·rw[Ug k4,ZM (by omega)]
 ·unfold ZiY
  constructor
  ·rintro ⟨⟨q1,q2⟩,⟨q3,_⟩,⟨q4,q5⟩,q6⟩;exact ⟨q1,q3,q4,q2 rfl,q5 rfl,q6⟩
  ·rintro ⟨q1,q3,q4,q2,q5,q6⟩;exact ⟨⟨q1,λ_=>q2⟩,⟨q3,λq=>by cases q⟩,⟨q4,λ_=>q5⟩,q6⟩
def Zcl (s:ZC):Prop:=0<=KA s/\KA s<=KF s/\KF s<=1000000
theorem Zav (s:ZC):ZbG s=some (tr (Zcl s)):=by
 unfold ZbG Zcl;exact YZ (λ_=>YZ (λ_=>J9 Kj))
def ZeR (s:ZC):Prop:=(-1000000000<=KA s/\KA s<=1000000000)/\(-1000000000<=KF s/\KF s<=1000000000)/\KA s<=KF s
theorem VZ (s:ZC):ZaA s=some (tr (ZeR s)):=by
 unfold ZaA ZeR ZaC;exact Yw (Zax (YQ _ _ _)) (λ_=>Yw (Zax (YQ _ _ _)) (λ_=>J9 Kj))
theorem ZcF (s:ZC):JW s=some (tr (Zcl s)):=by
 unfold JW Zej;refine ZbS (Yw (VZ s) (λ_=>Yw (Zax (YQ _ _ _)) (λ_=>Zax (Zax (YQ _ _ _))))) ?_;unfold Zcl ZeR;omega
structure Wv where
 period:Int
 rise:Int
 fall:Int
def Zqr (c:Zd) (w:Wv):Wv :=
 let w1:Wv:=if 1<KS c then ⟨Wq (KS c*w.period),w.rise,Wq (w.rise+Wq (Wq ((KS c).tdiv 2)*w.period))⟩ else w
 if Gy c=true then ⟨w1.period,w1.fall,w1.rise⟩ else w1
def Zov (l:List Zd):Nat->Int->Wv
 | 0,_=>⟨0,0,0⟩
 | n+1,k=>match l[k.toNat]? with
  | none=>⟨0,0,0⟩
  | some c=>if KC c<0 then ⟨Gd c,K9 c,Ge c⟩ else Zqr c (Zov l n (KC c))
def Zck (l:List Zd) (k:Int):Wv:=Zov l (k.toNat+1) k
def ZnU (l:List Zd) (m:Int):Prop:=∀ (j:Nat) (c:Zd),(j:Int)<m->l[j]?=some c->KC c<(j:Int)
theorem Zh8 (l:List Zd):∀ (n:Nat) (k:Int),0<=k->k<n->ZnU l (k+1)->Zov l n k=Zck l k
 | 0,k,h0,h1,_=>by omega
 | n+1,k,h0,h1,hs=>by
  unfold Zck;simp only[Zov];cases hc:l[k.toNat]? with
  | none=>rfl
  | some c =>
   simp only;split
   ·rfl
   ·rename_i hsrc
    have hlt:=hs k.toNat c (by omega) hc;have hs':ZnU l (KC c+1):=λj c' hj hc'=>hs j c' (by omega) hc';have e1:=Zh8 l n (KC c) (by omega) (by omega) hs';rw[e1];have:∀ m:Nat,KC c<m->m<n+1->Zov l m (KC c)=Zck l (KC c):=λm hm hmn=>Zh8 l m (KC c) (by omega) hm hs';by_cases hk:k.toNat<n+1/\KC c<(k.toNat:Int)
    ·rw[this k.toNat hk.2 hk.1]
    ·omega
 termination_by n=>n
theorem Zm2 (l:List Zd) (k:Int) (h0:0<=k) (c:Zd) (hc:l[k.toNat]?=some c) (hs:ZnU l (k+1)) :
  Zck l k=if KC c<0 then ⟨Gd c,K9 c,Ge c⟩ else Zqr c (Zck l (KC c)):=by
 unfold Zck;rw[Zov,hc];simp only;split
 ·rfl
 ·rename_i hsrc
  have hlt:=hs k.toNat c (by omega) hc;rw[Zh8 l k.toNat (KC c) (by omega) hlt (λj c' hj hc'=>hs j c' (by omega) hc')];rfl
def wvI (w:Wv):Q7:=(w.period,(w.rise,w.fall,()),())
def wvS (w:Wv):Yu:=(w.period,w.rise,w.fall,())
def Zlg (l:List Zd) (k:Int):Prop:=0<=k/\k<l.length/\ZnU l (k+1)
theorem ZcH (l:List Zd):∀ (n:Nat) (k:Int),Zlg l k->(∀ r,VI n l k=some r->r=wvI (Zck l k))/\(k<n->VI n l k=some (wvI (Zck l k)))
 | 0,k,hp=>⟨λr h=>by simp[VI] at h,λh=>by have:=hp.1;omega⟩
 | n+1,k,hp=>by
  obtain ⟨h0,h1,h2⟩:=hp;obtain ⟨c,hc,hc'⟩:=Zic h0 h1;have hw:=Zm2 l k h0 c hc' h2;simp only[VI,VU,hc,Bq];split
  ·rename_i hs
   rw[Uf hs] at hw;rw[hw];exact ⟨λr h=>by injection h with h;exact h.symm,λ_=>rfl⟩
  ·rename_i hs
   rw[Ug hs] at hw;have hlt:=h2 k.toNat c (by omega) hc';have ih:=ZcH l n (KC c) ⟨by omega,by omega,λj d hj hd=>h2 j d (by omega) hd⟩;have fin:∀ o:Option Q7,(∀ r,o=some r->r=wvI (Zck l (KC c)))->∀ F:Q7->Option Q7,F (wvI (Zck l (KC c)))=some (wvI (Zck l k))->(∀ r,o.bind F=some r->r=wvI (Zck l k))/\(o≠none->o.bind F=some (wvI (Zck l k))):=by
    intro o ho F hF;cases o with
    | none=>exact ⟨λr h=>(by cases h),λh=>absurd rfl h⟩
    | some x =>
     have:=ho x rfl;subst this;rw[Bq,hF];exact ⟨λr h=>by injection h with h;exact h.symm,λ_=>rfl⟩
   refine And.imp_right (λh2 hk=>h2 (by rw[ih.2 (by omega)];simp)) (fin _ ih.1 _ ?_);rw[hw];simp only[Zqr,wvI];split<;>split<;>simp[*]
theorem Zcg {l:List Zd} {k:Int} (hp:Zlg l k):ZaD l k=some (wvI (Zck l k)) :=
 Zlj ⟨k.toNat+1,(ZcH l _ k hp).2 (by have:=hp.1;omega)⟩ (λn r h=>(ZcH l n k hp).1 r h)
theorem Zdo (l:List Zd):∀ (n:Nat) (k:Int),Zlg l k->(∀ r,JF n l k=some r->r=wvS (Zck l k))/\(k<n->JF n l k=some (wvS (Zck l k)))
 | 0,k,hp=>⟨λr h=>by simp[JF] at h,λh=>by have:=hp.1;omega⟩
 | n+1,k,hp=>by
  obtain ⟨h0,h1,h2⟩:=hp;obtain ⟨c,hc,hc'⟩:=Zic h0 h1;have hw:=Zm2 l k h0 c hc' h2;simp only[JF,JE,hc,Bq];split
  ·rename_i hs
   rw[Uf hs] at hw;rw[hw];exact ⟨λr h=>by injection h with h;exact h.symm,λ_=>rfl⟩
  ·rename_i hs
   rw[Ug hs] at hw;have hlt:=h2 k.toNat c (by omega) hc';have ih:=Zdo l n (KC c) ⟨by omega,by omega,λj d hj hd=>h2 j d (by omega) hd⟩;have fin:∀ o:Option Yu,(∀ r,o=some r->r=wvS (Zck l (KC c)))->∀ F:Yu->Option Yu,F (wvS (Zck l (KC c)))=some (wvS (Zck l k))->(∀ r,o.bind F=some r->r=wvS (Zck l k))/\(o≠none->o.bind F=some (wvS (Zck l k))):=by
    intro o ho F hF;cases o with
    | none=>exact ⟨λr h=>(by cases h),λh=>absurd rfl h⟩
    | some x =>
     have:=ho x rfl;subst this;rw[Bq,hF];exact ⟨λr h=>by injection h with h;exact h.symm,λ_=>rfl⟩
   refine And.imp_right (λh2 hk=>h2 (by rw[ih.2 (by omega)];simp)) (fin _ ih.1 _ ?_);rw[hw];simp only[Zqr,wvS];split<;>split<;>simp[*,Int.mul_comm]
theorem Zey {l:List Zd} {k:Int} (hp:Zlg l k):Zda l k=some (wvS (Zck l k)) :=
 Zlj ⟨k.toNat+1,(Zdo l _ k hp).2 (by have:=hp.1;omega)⟩ (λn r h=>(Zdo l n k hp).1 r h)
def Zff (c:Zd):Bool:=decide (0<=KH c)&&decide (0<=Gi c)&&decide (Gi c<=Gq c)&&decide (Gq c<=100000)&&within (Gg c) 0 100000
def Zha (c:Zd):Bool:=within (Gd c) 2 100000&&within (K9 c) 0 (Wq (Gd c-1))&&within (Ge c) 0 (Wq (Gd c-1))&&decide (K9 c≠Ge c)&&decide (KS c=1)&&!Gy c
def ZqP (l:List Zd) (k:Int) (c:Zd):Bool:=within (KC c) 0 (Wq (k-1))&&within (KS c) 1 8&&decide (Gd c=0)&&decide (K9 c=0)&&decide (Ge c=0)&&decide ((Zck l k).period<=100000)
def Zdf (l:List Zd) (k:Int) (c:Zd):Bool:=Zff c&&(if KC c=-1 then Zha c else ZqP l k c)
theorem ZhO (c:Zd):Vg c=some (Zha c):=by
 unfold Vg;simp only[Qh,Bq];repeat' split
 all_goals simp[Zha, *]
theorem Zhm (c:Zd):ZbJ c=some (Zha c):=by
 unfold ZbJ;simp only[QZ,Bq];repeat' split
 all_goals simp[Zha, *]
theorem Zrb (c:Zd):Zff c=(decide (0<=KH c)&&within (Gi c) 0 100000&&within (Gq c) (Gi c) 100000&&within (Gg c) 0 100000):=by
 rw[Ka];simp only[Zff,within,Ul,Uq];omega
theorem ZiK (c:Zd) (hl:(KQ c).length<=4611686018427387904):Zc3 c=some (Vw (KQ c)&&Zff c):=by
 unfold Zc3;rw[JD _ hl,Zrb];simp only[QZ,Bq];repeat' split
 all_goals simp[*]
def ZkR (l:List Zd) (m:Int):Prop:=∀ (j:Nat) (c:Zd),(j:Int)<m->l[j]?=some c->Zdf l j c=true
theorem Zmx {l:List Zd} {k:Nat} {c:Zd} (h:Zdf l k c=true) (hk:(k:Int)<=1000000):KC c=-1\/0<=KC c/\KC c<k:=by
 unfold Zdf at h;simp only[Ul] at h;split at h
 ·exact .inl (by assumption)
 ·have h2:=h.2
  unfold ZqP at h2;simp only[within,Ul,Uq] at h2;rw[Xa (by omega) (by omega)] at h2;omega
theorem ZkR.src {l:List Zd} {m:Int} (h:ZkR l m) (hm:m<=1000000):ZnU l m:=by
 intro j c hj hc;have:=Zmx (h j c hj hc) (by omega);omega
theorem Zkq {l:List Zd} {k:Int} {c:Zd} (h0:0<=k) (h1:k<l.length) (hk:k<=1000) (h:ZkR l k) (hc:l[k.toNat]?=some c) (hs:KC c<k):Zlg l k:=by
 refine ⟨h0,h1,λj d hj hd=>?_⟩;by_cases hjk:(j:Int)<k
 ·exact h.src (by omega) j d hjk hd
 ·have:j=k.toNat:=by omega
  subst this;rw[hc] at hd;injection hd with hd;subst hd
  omega
theorem ZkL {s k:Int} (hk0:0<=k) (hk:k<=1000) (h:within s 0 (Wq (k-1))=true):0<=s/\s<k:=by
 rw[within_iff,Xa (by omega) (by omega)] at h;omega
theorem ZnY (l:List Zd) (k:Int) (c:Zd):Zdf l k c=(decide (0<=KH c)&&decide (0<=Gi c)&&decide (Gi c<=Gq c)&&decide (Gq c<=100000)&&within (Gg c) 0 100000 &&
  (if KC c=-1 then Zha c else within (KC c) 0 (Wq (k-1))&&within (KS c) 1 8&&decide (Gd c=0)&&decide (K9 c=0)&&decide (Ge c=0)&&decide ((Zck l k).period<=100000))):=rfl
theorem Zjp {l:List Zd} {k:Int} {c:Zd} (h0:0<=k) (h1:k<l.length) (hk:k<=1000) (h:ZkR l k) (hc:l[k.toNat]?=some c):ZdE l k=some (Zdf l k c):=by
 have hw:within (KC c) 0 (Wq (k-1))=true->ZaD l k=some (wvI (Zck l k)):=λhh=>Zcg (Zkq h0 h1 hk h hc (ZkL h0 hk hh).2);unfold ZdE;rw[Za5 h0 hc,ZnY];clear h0 h1 hk h hc;simp only[Qh,Bq,ZhO];generalize Zha c=pr;generalize KH c=v1 at *;generalize Gi c=v2 at *;generalize Gq c=v3 at *;generalize Gg c=v4 at *;generalize KC c=v5 at *;generalize KS c=v6 at *;generalize Gd c=v7 at *;generalize K9 c=v8 at *;generalize Ge c=v9 at *;by_cases a1:v1<0
 ·have:¬0<=v1:=by omega
  simp[a1,this]
 by_cases a2:v2<0
 ·have:¬0<=v2:=by omega
  simp[a1,a2,this]
 by_cases a3:v3<v2
 ·have:¬v2<=v3:=by omega
  simp[a1,a2,a3,this]
 by_cases a4:100000<v3
 ·have:¬v3<=100000:=by omega
  simp[a1,a2,a3,a4,this]
 rw[Ug a1,Ug a2,Ug a3,Ug a4,Kf (show 0<=v1 by omega),Kf (show 0<=v2 by omega),Kf (show v2<=v3 by omega),Kf (show v3<=100000 by omega)];cases within v4 0 100000
 ·simp
 simp only[Um,Bool.true_and];by_cases a5:v5=-1
 ·rw[Uf a5,Uf a5]
 rw[Ug a5,Ug a5];cases hw5:within v5 0 (Wq (k-1))
 ·simp
 rw[hw hw5];simp only[Um,Bool.true_and];cases within v6 1 8
 ·simp
 by_cases a7:v7=0
 ·by_cases a8:v8=0
  ·by_cases a9:v9=0
   ·simp[a7,a8,a9,wvI]
   ·simp[a7,a8,a9]
  ·simp[a7,a8]
 ·simp[a7]
def ZeD (l:List Zd):List (List UInt8):=l.map KQ
def ZcT (l:List Zd):Prop:=l.length<=6/\ZkR l l.length/\Qa (ZeD l) l.length
theorem Zix (l:List Zd):ZcV l=some (tr (ZcT l)):=by
 unfold ZcV;split
 ·rename_i h
  rw[ZM];intro hh;have:=hh.1;omega
 ·rename_i h6
  refine YV l.length (λk v=>v.2.1=(k:Int)/\v.1=ZeD (l.take k)/\ZkR l k) _ ⟨rfl,rfl,λj s hj=>by omega⟩ ?_ ?_
  ·rintro k ⟨ns,i,⟨⟩⟩ hk ⟨hi,hns,hS⟩
   simp only at hi hns;subst hi;have hx:l[k]?=some l[k]:=Ub hk;generalize l[k]=x at hx;simp only[Zaz,Zy,hx,Bq,show (k:Int)<(l.length:Int) from by omega,Um,Xa (show (-9223372036854775808:Int)<=(k:Int)+1 by omega) (by omega)];rw[Zjp (by omega) (by omega) (by omega) hS (by simpa using hx),Bq];split
   ·rename_i hok
    have hlen:ns.length=k:=by rw[hns];simp[ZeD];omega
    rw[Zt (by simp only[UP];omega)];refine .inl ⟨_,rfl,by simp,by rw[hns,Y3 hx];simp[ZeD],λj d hj hd=>?_⟩;by_cases e:(j:Int)<k
    ·exact hS j d e hd
    ·have:j=k:=by omega
     subst this;rw[hx] at hd;injection hd with hd;subst hd
     exact hok
   ·rename_i hok
    right;rw[ZM];intro hh;exact hok (hh.2.1 k x (by omega) hx)
  ·rintro ⟨ns,i,⟨⟩⟩ ⟨hi,hns,hS⟩
   simp only at hi hns;subst hi;rw[Ut] at hns;have hlen:(ZeD l).length=l.length:=by simp[ZeD]
   subst hns;simp only[Zaz,Uh,Uk];rw[XU _ (by omega),Bq,hlen];congr 2;by_cases hN:Qa (ZeD l) l.length
   ·rw[Yc hN,Yc ⟨by omega,hS,hN⟩]
   ·rw[ZM hN,ZM (λhh=>hN hh.2.2)]
def ZpN (l:List Zd):Prop:=∀ c∈l,(KQ c).length<=4611686018427387904
theorem Zfs {l:List Zd} {k:Nat} {c:Zd} (h:l[k]?=some c):(ZeD l)[k]?=some (KQ c):=by simp[ZeD,h]
theorem Zgg {l:List Zd} {k:Nat} {c:Zd} (hk:k<l.length) (h6:l.length<=6) (hc:l[k]?=some c) (hpre:ZkR l k) (hpl:Zff c=true) :
  Zr (λv=>VL l (k:Int) c v.1) ((0:Int),()) =
   some (if KQ c∈(ZeD l).take k then .inr false else if Zdf l k c=true then .inl ((k:Int)+1,()) else .inr false):=by
 refine YV k (λm v=>v.1=(m:Int)/\KQ c ∉ (ZeD l).take m) _ ⟨rfl,by simp⟩ ?_ ?_
 ·rintro m ⟨i,⟨⟩⟩ hm ⟨hi,hn⟩
  simp only at hi;subst hi;have hx:l[m]?=some l[m]:=Ub (by omega);generalize l[m]=x at hx;have hxn:=Zfs hx;simp only[VL,Zy,hx,Bq,show (m:Int)<(k:Int) from by omega,Um,Xa (show (-9223372036854775808:Int)<=(m:Int)+1 by omega) (by omega)];split
  ·rename_i e
   right;rw[Uf];rw[<-e];refine Uu.2 ⟨m,?_⟩;rw[Uw,Uf hm,hxn]
  ·rename_i e
   refine .inl ⟨_,rfl,by simp,?_⟩;rw[Y3 hxn];simp only[UC,UO,not_or];exact ⟨hn,λh=>e h.symm⟩
 ·rintro ⟨i,⟨⟩⟩ ⟨hi,hn⟩
  simp only at hi;subst hi;have hw:within (KC c) 0 (Wq ((k:Int)-1))=true->Zda l k=some (wvS (Zck l k)):=λhh =>
   Zey (Zkq (by omega) (by omega) (by omega) hpre (by simpa using hc) (ZkL (by omega) (by omega) hh).2)
  rw[Ug hn];simp only[VL,Uh,Uk,Zhm,QZ,Bq,Xa (show (-9223372036854775808:Int)<=(k:Int)+1 by omega) (by omega)];have e:Zdf l k c=(Zff c&&_):=rfl;rw[e,hpl,Bool.true_and];by_cases a1:KC c=-1
  ·rw[Uf a1,Uf a1]
   cases Zha c<;>simp
  rw[Ug a1,Ug a1];unfold ZqP;cases hw5:within (KC c) 0 (Wq ((k:Int)-1))
  ·simp
  rw[hw hw5];simp only[Um,Bool.true_and,Bq];cases within (KS c) 1 8
  ·simp
  by_cases a7:Gd c=0
  ·by_cases a8:K9 c=0
   ·by_cases a9:Ge c=0
    ·by_cases a10:100000<(Zck l k).period
     ·have:¬(Zck l k).period<=100000:=by omega
      simp[a7,a8,a9,wvS,a10,this]
     ·have:(Zck l k).period<=100000:=by omega
      simp[a7,a8,a9,wvS,a10,this]
    ·simp[a7,a8,a9]
   ·simp[a7,a8]
  ·simp[a7]
theorem ZcJ (l:List Zd) (hn:ZpN l) (hl:l.length<=4611686018427387904):J5 l=some (tr (ZcT l)):=by
 unfold J5;refine YV l.length (λk v=>v.1=(k:Int)/\(0<k->l.length<=6)/\ZkR l k/\Qa (ZeD l) k) _ ⟨rfl,by omega,λj s hj=>by omega,λj s hj=>by omega⟩ ?_ ?_
 ·rintro k ⟨i,⟨⟩⟩ hk ⟨hi,_,hS,hN⟩
  simp only at hi;subst hi;have hx:l[k]?=some l[k]:=Ub hk;generalize l[k]=x at hx;simp only[ZaG,Zy,hx,Bq,show (k:Int)<(l.length:Int) from by omega,Um];split
  ·rename_i h6
   have h6':l.length<=6:=by omega
   rw[ZiK _ (hn x (Ui hx)),Bq];split
   ·rename_i hp
    simp only[Ul] at hp;rw[Zgg hk h6' hx hS hp.2];split
    ·rename_i hm
     right;rw[ZM];exact λhh=>(hh.2.2 k (KQ x) hk (Zfs hx)).2 hm
    ·rename_i hm
     split
     ·rename_i hok
      refine .inl ⟨_,rfl,by simp,λ_=>h6',λj d hj hd=>?_,λj s hj hs=>?_⟩
      ·by_cases e:(j:Int)<k
       ·exact hS j d e hd
       ·have:j=k:=by omega
        subst this;rw[hx] at hd;injection hd with hd;subst hd
        exact hok
      ·by_cases e:j<k
       ·exact hN j s e hs
       ·have:j=k:=by omega
        subst this;rw[Zfs hx] at hs;injection hs with hs;subst hs
        exact ⟨hp.1,hm⟩
     ·rename_i hok
      right;rw[ZM];exact λhh=>hok (hh.2.1 k x (by omega) hx)
   ·rename_i hp
    right;rw[ZM];intro hh;have h1:=(hh.2.2 k (KQ x) hk (Zfs hx)).1;have h2:=hh.2.1 k x (by omega) hx;unfold Zdf at h2;simp only[Ul] at h2;exact hp (by rw[h1,h2.1];rfl)
  ·rename_i h6
   right;rw[ZM (λhh=>h6 (by have:=hh.1;omega))];simp[h6]
 ·rintro ⟨i,⟨⟩⟩ ⟨hi,_,hS,hN⟩
  simp only at hi;subst hi;simp only[ZaG,Uh,Uk];by_cases h6:(l.length:Int)<=6
  ·rw[Yc ⟨by omega,hS,hN⟩,Kf h6]
  ·rw[ZM (λhh=>h6 (by have:=hh.1;omega)),decide_eq_false h6]
structure ZuY (w:Wv):Prop where
 p1:2<=w.period
 p2:w.period<=100000
 r1:0<=w.rise
 r2:w.rise<w.period
 f1:0<=w.fall
 f2:w.fall<w.period
theorem ZtH {l:List Zd} {m:Int} (hm:m<=6) (h:ZkR l m):∀ (n:Nat) (k:Int),k<n->0<=k->k<m->k<l.length->ZuY (Zck l k)
 | 0,k,h1,h2,_,_=>by omega
 | n+1,k,h1,h2,h3,h4=>by
  obtain ⟨c,hc⟩:∃ c,l[k.toNat]?=some c:=⟨_,Ub (by omega)⟩;have hck:=h k.toNat c (by omega) hc;rw[show ((k.toNat:Nat):Int)=k by omega] at hck;have hsrc:ZnU l (k+1):=λj d hj hd=>h.src (by omega) j d (by omega) hd;have hw:=Zm2 l k h2 c hc hsrc;simp only[Zdf,Ul] at hck;obtain ⟨hpl,hck⟩:=hck;split at hck
  ·rename_i hs
   rw[Uf (by omega)] at hw;simp only[Zha,within,Ul,Uq] at hck;obtain ⟨⟨⟨⟨⟨⟨a1,a2⟩,a3,a4⟩,a5,a6⟩,_⟩,_⟩,_⟩:=hck;rw[Xa (by omega) (by omega)] at a4 a6;rw[hw];constructor<;>simp only<;>omega
  ·simp only[ZqP,within,Ul,Uq] at hck
   obtain ⟨⟨⟨⟨⟨⟨a1,a2⟩,a3,a4⟩,_⟩,_⟩,_⟩,a5⟩:=hck;rw[Xa (by omega) (by omega)] at a2;rw[Ug (by omega)] at hw;have ih:=ZtH hm h n (KC c) (by omega) a1 (by omega) (by omega);have b1:=ih.p1;have b2:=ih.p2;have b3:=ih.r1;have b4:=ih.r2;have b5:=ih.f1;have b6:=ih.f2;rw[hw] at a5 ⊢;clear hw ih;simp only[Zqr] at a5 ⊢;generalize Zck l (KC c)=w at *;generalize KS c=dv at *;have q1:0<=dv.tdiv 2/\dv.tdiv 2<=4:=by
    rw[Int.tdiv_eq_ediv_of_nonneg (by omega)];omega
   have q2:2*1<=dv*w.period/\dv*w.period<=8*100000:=by
    constructor
    ·have:=Int.mul_le_mul a3 b1 (by omega) (by omega);omega
    ·exact Int.mul_le_mul a4 b2 (by omega) (by omega)
   have q3:0<=dv.tdiv 2*w.period/\dv.tdiv 2*w.period<=4*100000:=by
    constructor
    ·exact Int.mul_nonneg q1.1 (by omega)
    ·exact Int.mul_le_mul q1.2 b2 (by omega) (by omega)
   have q4:1<dv->dv.tdiv 2*w.period<=dv*w.period-w.period:=by
    intro hd;have h1:dv.tdiv 2<=dv-1:=by rw[Int.tdiv_eq_ediv_of_nonneg (by omega)];omega
    have:=Int.mul_le_mul_of_nonneg_right h1 (show 0<=w.period by omega);rw[Int.sub_mul,Int.one_mul] at this;exact this
   have q5:1<dv->w.period<=dv*w.period:=by
    intro hd;have:=Int.mul_le_mul_of_nonneg_right (show (1:Int)<=dv by omega) (show 0<=w.period by omega);rw[Int.one_mul] at this;exact this
   rw[Xa (n:=dv*w.period) (by omega) (by omega),Xa (n:=dv.tdiv 2) (by omega) (by omega),Xa (n:=dv.tdiv 2*w.period) (by omega) (by omega),Xa (n:=w.rise+dv.tdiv 2*w.period) (by omega) (by omega)] at a5 ⊢;by_cases c1:1<dv<;>by_cases c2:Gy c=true
   all_goals simp only[c1,c2,Um,Uk,UN,true_implies,false_implies] at a5 q4 q5 ⊢
   all_goals (constructor<;>(try simp only)<;>omega)
theorem ZuX {l:List Zd} {k:Int} (h:ZcT l) (h0:0<=k) (hk:k<l.length):ZuY (Zck l k):=by
 have h6:=h.1;exact ZtH (by omega) h.2.1 (k.toNat+1) k (by omega) h0 hk hk
theorem Zlh {l:List Zd} {k:Int} (h:ZcT l) (h0:0<=k) (hk:k<l.length):Zlg l k :=
 ⟨h0,hk,λj c hj hc=>h.2.1.src (by have:=h.1;omega) j c (by omega) hc⟩
end Go.Proofs.YtmihfdfjccociaaGreatDoor
