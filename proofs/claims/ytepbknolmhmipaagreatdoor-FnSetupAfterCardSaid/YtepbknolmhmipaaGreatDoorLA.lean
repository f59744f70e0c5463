/-
  Ground of the plain laws: loops by what they come to; small arithmetic.
-/
import Derived.Test.YtepbknolmhmipaaGreatDoorE1
import Derived.IntWalk
import Derived.Test.YtepbknolmhmipaaGreatDoorM
namespace Go.Proofs.YtepbknolmhmipaaGreatDoor
set_option linter.unusedVariables false
set_option linter.unusedSimpArgs false
open Go Go.Sx
theorem Zar {n:Int} (h1:-9223372036854775808<=n) (h2:n<=9223372036854775807):Wq n=n:=IntWalk.i64_in n ⟨h1,h2⟩
theorem Zu {α:Type} (l:List α) (k:Nat):atI l (k:Int)=l[k]?:=by simp[atI]
theorem Zbc {α:Type} {l:List α} {i:Int} {x:α} (h0:0<=i) (hx:l[i.toNat]?=some x):atI l i=some x:=by simp[atI,h0,hx]
theorem ZmO {α:Type} {l:List α} {i:Int} (h0:0<=i) (h1:i<l.length):∃ x,atI l i=some x/\l[i.toNat]?=some x :=
 ⟨l[i.toNat]'(by omega),by simp[atI,h0],List.getElem?_eq_getElem _⟩
theorem Zd {α:Type} {p:Prop} (h:p) (a:Option α):Zp p a=a:=by
 unfold Zp;exact if_pos h
theorem JQ {τ ρ:Type} {step:τ->Option (τ ⊕ ρ)} (n:Nat) (I:Nat->τ->Prop) (Q:ρ->Prop) {v:τ} (h0:I 0 v)
  (hs:∀ k v,k<n->I k v->(∃ v',step v=some (.inl v')/\I (k+1) v')\/∃ r,step v=some (.inr r)/\Q r)
  (hx:∀ v,I n v->∃ r,step v=some (.inr r)/\Q r):∃ r,Zq step v=some r/\Q r:=by
 have:∀ m k v,k+m=n->I k v->∃ r,Zq step v=some r/\Q r:=by
  intro m;induction m with
  | zero =>
   intro k v hk hI;have:k=n:=by omega
   subst this;obtain ⟨r,e,hq⟩:=hx v hI;exact ⟨r,ZeP e,hq⟩
  | succ m ih =>
   intro k v hk hI;rcases hs k v (by omega) hI with ⟨v',e,hI'⟩ | ⟨r,e,hq⟩
   ·obtain ⟨r,h1,h2⟩:=ih (k+1) v' (by omega) hI'
    exact ⟨r,by rw[Zgw e];exact h1,h2⟩
   ·exact ⟨r,ZeP e,hq⟩
 exact this n 0 v (by omega) h0
theorem Yr {τ ρ:Type} {step:τ->Option (τ ⊕ ρ)} (n:Nat) (I:Nat->τ->Prop) (R:ρ) {v:τ} (h0:I 0 v)
  (hs:∀ k v,k<n->I k v->(∃ v',step v=some (.inl v')/\I (k+1) v')\/step v=some (.inr R))
  (hx:∀ v,I n v->step v=some (.inr R)):Zq step v=some R:=by
 obtain ⟨r,h1,h2⟩:=JQ n I (λr=>r=R) h0 (λk v hk hI=>(hs k v hk hI).elim .inl (λh=>.inr ⟨R,h,rfl⟩)) (λv hI=>⟨R,hx v hI,rfl⟩);rw[h1,h2]
theorem Yy {α:Type} {l:List α} {k:Nat} {x:α} (hx:l[k]?=some x):l.take (k+1)=l.take k++[x]:=by
 rw[List.take_add_one,hx];rfl
theorem ZnG {ρ:Type} {g:Nat->Option ρ} {v:ρ} (h:∃ n,g n=some v) (hd:∀ n r,g n=some r->r=v):Zuc g=some v:=by
 obtain ⟨n,hn⟩:=h;unfold Zuc;have hx:∃ r n,g n=some r:=⟨v,n,hn⟩;grind
def sm:(t:Ty)->t.den->Prop
 | .str,s=>(s.length:Int)<=1048576
 | .sl t,l=>(l.length:Int)<=1048576/\∀ x∈l,sm t x
 | .pair a b,d=>sm a d.1/\sm b d.2
 | _,_=>True
def Ty.fixed:Ty->Bool
 | .str=>false
 | .sl _=>false
 | .ptr _=>true
 | .fn _ _=>true
 | .pair a b=>Ty.fixed a&&Ty.fixed b
 | _=>true
theorem YD:∀ (t:Ty),Ty.fixed t=true->∀ d:t.den,sm t d
 | .int _,_,_=>trivial
 | .bool,_,_=>trivial
 | .unit,_,_=>trivial
 | .ptr _,_,_=>trivial
 | .fn _ _,_,_=>trivial
 | .nptr _,_,_=>trivial
 | .mp _ _,_,_=>trivial
 | .str,h,_=>by simp[Ty.fixed] at h
 | .sl _,h,_=>by simp[Ty.fixed] at h
 | .pair a b,h,d=>by
  simp only[Ty.fixed,Bool.and_eq_true] at h;exact ⟨YD a h.1 d.1,YD b h.2 d.2⟩
noncomputable def tr (p:Prop):Bool:=@decide p (Classical.propDecidable p)
theorem ZkJ {p:Prop} {b:Bool} (h:b=true<->p):tr p=b:=by
 unfold tr;grind
theorem QM (p:Prop):tr p=true<->p:=by simp[tr]
theorem Yf {p:Prop} (h:p):tr p=true:=(QM p).2 h
theorem ZF {p:Prop} (h:¬p):tr p=false:=by simp[tr,h]
def within (n a b:Int):Bool:=decide (a<=n)&&decide (n<=b)
theorem Qu (n a b:Int):ZQ n a b=some (within n a b):=by
 unfold ZQ within;split<;>simp[*]
theorem Q9 (n a b:Int):ZN n a b=some (within n a b):=by
 unfold ZN within;split<;>simp[*]
theorem Y7 (n a b:Int):within n a b=true<->a<=n/\n<=b:=by simp[within]
def Zeu (b:UInt8):Bool:=decide (97<=b.toNat)&&decide (b.toNat<=122)
def Zjy (b:UInt8):Bool:=decide (48<=b.toNat)&&decide (b.toNat<=57)
def QL (s:List UInt8):Bool:=decide (1<=s.length)&&decide (s.length<=8)&&s.all (λb=>Zeu b||Zjy b)&&(match s with
 | b::_=>Zeu b
 | []=>false)
def Zn1 (s:List UInt8) (i:Nat):Prop:=∀ (j:Nat) (b:UInt8),j<i->s[j]?=some b->(Zeu b||Zjy b)=true/\(j=0->Zeu b=true)
theorem Zpd {s:List UInt8} {i:Nat} {x:UInt8} (h:Zn1 s i) (hx:s[i]?=some x) (h1:(Zeu x||Zjy x)=true) (h2:i=0->Zeu x=true):Zn1 s (i+1):=by
 intro j b hj hb;by_cases e:j<i
 ·exact h j b e hb
 ·have:j=i:=by omega
  subst this;rw[hx] at hb;injection hb with hb;subst hb
  exact ⟨h1,h2⟩
theorem ZnA {s:List UInt8} (h:Zn1 s s.length):QL s=(decide (1<=s.length)&&decide (s.length<=8)):=by
 unfold QL;have h1:s.all (λb=>Zeu b||Zjy b)=true:=by
  rw[List.all_eq_true];intro b hb;obtain ⟨j,hj⟩:=List.mem_iff_getElem?.1 hb;exact (h j b (List.getElem?_eq_some_iff.1 hj).1 hj).1
 rw[h1];cases s with
 | nil=>rfl
 | cons b r =>
  have:=(h 0 b (by simp) rfl).2 rfl;simp[this]
theorem Zqx {s:List UInt8} {j:Nat} {b:UInt8} (hb:s[j]?=some b) (h:(Zeu b||Zjy b)=false\/j=0/\Zeu b=false):QL s=false:=by
 unfold QL;rcases h with h | ⟨rfl,h⟩
 ·have:s.all (λb=>Zeu b||Zjy b)=false:=by
   rw[List.all_eq_false];exact ⟨b,List.mem_of_getElem? hb,by simp[h]⟩
  simp[this]
 ·cases s with
  | nil=>simp at hb
  | cons c r=>simp at hb;subst hb;simp[h]
theorem JJ (s:List UInt8) (hl:s.length<=4611686018427387904):VA s=some (QL s):=by
 unfold VA;refine Yr s.length (λk v=>v.1=(k:Int)/\Zn1 s k) _ ⟨rfl,λj b hj=>by omega⟩ ?_ ?_
 ·rintro k ⟨i,⟨⟩⟩ hk ⟨rfl,hS⟩
  have hx:s[k]?=some s[k]:=List.getElem?_eq_getElem hk;generalize s[k]=x at hx;simp only[ZbH,Zu,hx,Bq,show (k:Int)<(s.length:Int) from by omega,if_true,Zar (show (-9223372036854775808:Int)<=(k:Int)+1 by omega) (by omega)];have ok:(Zeu x||Zjy x)=true->(k=0->Zeu x=true)->(((k:Int)+1,()):Int×Unit).1=((k+1:Nat):Int)/\Zn1 s (k+1):=λh1 h2=>⟨by simp,Zpd hS hx h1 h2⟩;have bad:((Zeu x||Zjy x)=false\/k=0/\Zeu x=false)->(some (Sum.inr false):Option (Int×Unit ⊕ Bool))=some (Sum.inr (QL s)):=λh=>by rw[Zqx hx h]
  simp only[Zeu,Zjy] at ok bad;repeat' split
  all_goals first
   | (left;refine ⟨_,rfl,ok ?_ ?_⟩<;>simp<;>omega)
   | (right;refine bad ?_;first | (left;simp;omega) | (right;simp;omega))
 ·rintro ⟨i,⟨⟩⟩ ⟨rfl,hS⟩
  simp only[ZbH,Int.lt_irrefl,if_false];rw[ZnA hS];split
  ·rename_i h
   have h1:1<=s.length:=by omega
   have h2:decide ((s.length:Int)<=8)=decide (s.length<=8):=by rw[decide_eq_decide];omega
   simp[h1,h2]
  ·have h1:¬1<=s.length:=by omega
   simp[h1]
theorem dropWhile_nil {p:UInt8->Bool}:∀ (m:List UInt8),(∀ x∈m.dropWhile p,p x=true)->∀ x∈m,p x=true
 | [],_=>by simp
 | a::m,h=>by
  by_cases ha:p a=true
  ·rw[List.dropWhile_cons_of_pos ha] at h
   intro x hx;rcases List.mem_cons.1 hx with rfl | hx
   ·exact ha
   ·exact dropWhile_nil m h x hx
  ·rw[List.dropWhile_cons_of_neg ha] at h
   exact absurd (h a (by simp)) ha
theorem ZiE {p:UInt8->Bool}:∀ (m:List UInt8),m.dropWhile p=[]<->∀ x∈m,p x=true
 | []=>by simp
 | a::m=>by
  by_cases ha:p a=true
  ·rw[List.dropWhile_cons_of_pos ha,ZiE m];simp[ha]
  ·rw[List.dropWhile_cons_of_neg ha];simp[ha]
theorem Zsc (s cs:List UInt8):Lib.trimS s cs=[]<->∀ b∈s,cs.contains b=true:=by
 unfold Lib.trimS Lib.trimLeftS Lib.trimRightS;rw[ZiE];constructor
 ·intro h b hb
  exact dropWhile_nil s.reverse (λx hx=>h x (List.mem_reverse.2 hx)) b (List.mem_reverse.2 hb)
 ·intro h b hb
  exact h b (List.mem_reverse.1 ((List.dropWhile_sublist _).subset (List.mem_reverse.1 hb)))
def letters:List UInt8:=[97,98,99,100,101,102,103,104,105,106,107,108,109,110,111,112,113,114,115,116,117,118,119,120,121,122]
def Zff:List UInt8:=letters++[48,49,50,51,52,53,54,55,56,57]
theorem Ztv {p:UInt8->Bool} (h:(List.range 256).all (λn=>p (UInt8.ofNat n))=true) (b:UInt8):p b=true:=by
 rw[List.all_eq_true] at h;have:=h b.toNat (List.mem_range.2 b.toNat_lt);simpa using this
theorem ZfP (b:UInt8):Zff.contains b=(Zeu b||Zjy b):=by
 have:=Ztv (p:=λb=>Zff.contains b == (Zeu b||Zjy b)) (by decide +kernel) b;simpa using this
theorem ZoB (s:List UInt8):Lib.trimS s Zff=[]<->s.all (λb=>Zeu b||Zjy b)=true:=by
 rw[Zsc,List.all_eq_true];simp only[ZfP]
theorem Znq (b:UInt8):decide (0<=(Lib.indexByte letters b:Int))=Zeu b:=by
 have:=Ztv (p:=λb=>decide (0<=(Lib.indexByte letters b:Int)) == Zeu b) (by decide +kernel) b;simpa using this
theorem Zet (s:List UInt8):ZbV s=some (QL s):=by
 unfold ZbV;rw[Qu,Bq];split
 ·rename_i h
  rw[Y7] at h;rw[Zd (by omega)];split
  ·rename_i ht
   have ht':=(ZoB s).1 ht;cases s with
   | nil=>simp at h
   | cons b r =>
    have e:atI (b::r) (0:Int)=some b:=rfl;rw[e,Bq];have e1:((b.toNat:Int)).toNat.toUInt8=b:=by simp
    rw[e1];have h1:1<=(b::r).length:=by simp
    have h2:(b::r).length<=8:=by omega
    have:=Znq b;unfold letters at this;rw[this];simp only[QL,ht',decide_eq_true h1,decide_eq_true h2,Bool.true_and]
  ·rename_i ht
   have ht':¬s.all (λb=>Zeu b||Zjy b)=true:=λe=>ht ((ZoB s).2 e);simp only[QL,Bool.eq_false_iff.2 ht',Bool.and_false,Bool.false_and]
 ·rename_i h
  rw[Y7] at h;have:¬(1<=s.length/\s.length<=8):=by omega
  rw[eq_comm];congr 1;rw[Bool.eq_false_iff];intro hh;simp only[QL,Bool.and_eq_true,decide_eq_true_eq] at hh;omega
theorem ZkC (l:List (List UInt8)) (s:List UInt8) (hl:l.length<=4611686018427387904):∃ r,Xw l s=some r/\(0<=r<->s∈l):=by
 unfold Xw;refine JQ l.length (λk v=>v.1=(k:Int)/\s ∉ l.take k) _ ⟨rfl,by simp⟩ ?_ ?_
 ·rintro k ⟨i,⟨⟩⟩ hk ⟨rfl,hS⟩
  have hx:l[k]?=some l[k]:=List.getElem?_eq_getElem hk;generalize l[k]=x at hx;simp only[Xx,Zu,hx,Bq,show (k:Int)<(l.length:Int) from by omega,if_true,Zar (show (-9223372036854775808:Int)<=(k:Int)+1 by omega) (by omega)];split
  ·rename_i e;subst e
   exact .inr ⟨_,rfl,λ_=>List.mem_of_getElem? hx,λ_=>by simp⟩
  ·rename_i e
   exact .inl ⟨_,rfl,by simp,by rw[Yy hx];simp[hS,e]⟩
 ·rintro ⟨i,⟨⟩⟩ ⟨rfl,hS⟩
  simp only[Xx,Int.lt_irrefl,if_false];refine ⟨_,rfl,λh=>by omega,λh=>absurd h (by simpa using hS)⟩
theorem Zio (l:List (List UInt8)) (s:List UInt8) (hl:l.length<=4611686018427387904):Xa l s=some (decide (s∈l)):=by
 obtain ⟨r,h1,h2⟩:=ZkC l s hl;unfold Xa;rw[h1,Bq];simp only[h2]
def X6 (l:List (List UInt8)) (k:Nat):Prop:=∀ (j:Nat) (s:List UInt8),j<k->l[j]?=some s->QL s=true/\s ∉ l.take j
theorem Qd (l:List (List UInt8)) (hl:l.length<=4611686018427387904):XU l=some (tr (X6 l l.length)):=by
 unfold XU;refine Yr l.length (λk v=>v.1=(k:Int)/\X6 l k) _ ⟨rfl,λj s hj=>by omega⟩ ?_ ?_
 ·rintro k ⟨i,⟨⟩⟩ hk ⟨rfl,hS⟩
  have hx:l[k]?=some l[k]:=List.getElem?_eq_getElem hk;generalize l[k]=x at hx;simp only[ZaK,Zu,hx,Bq,show (k:Int)<(l.length:Int) from by omega,if_true,Zar (show (-9223372036854775808:Int)<=(k:Int)+1 by omega) (by omega),Zet];split
  ·rename_i hn
   rw[Zd (by omega),Zd (by omega)];simp only[Int.toNat_natCast,Int.toNat_zero,List.drop_zero,Nat.sub_zero];rw[Zio _ _ (by simp only[List.length_take];omega),Bq];split
   ·rename_i hm
    right;rw[ZF];intro hh;exact (hh k x hk hx).2 (by simpa using hm)
   ·rename_i hm
    refine .inl ⟨_,rfl,by simp,λj s hj hs=>?_⟩;by_cases e:j<k
    ·exact hS j s e hs
    ·have:j=k:=by omega
     subst this;rw[hx] at hs;injection hs with hs;subst hs
     exact ⟨hn,by simpa using hm⟩
  ·rename_i hn
   right;rw[ZF];intro hh;exact hn (hh k x hk hx).1
 ·rintro ⟨i,⟨⟩⟩ ⟨rfl,hS⟩
  simp only[ZaK,Int.lt_irrefl,if_false];rw[Yf hS]
def allIn (l:List Int) (lo hi:Int):Bool:=l.all (λn=>within n lo hi)
theorem J4 (l:List Int) (lo hi:Int) (hl:l.length<=4611686018427387904):Xe l lo hi=some (allIn l lo hi):=by
 have h1:∃ r,Z9 l (lo,hi,())=some r/\(0<=r<->allIn l lo hi=false):=by
  unfold Z9;refine JQ l.length (λk v=>v.1=(k:Int)/\allIn (l.take k) lo hi=true) _ ⟨rfl,rfl⟩ ?_ ?_
  ·rintro k ⟨i,⟨⟩⟩ hk ⟨rfl,hS⟩
   have hx:l[k]?=some l[k]:=List.getElem?_eq_getElem hk;generalize l[k]=x at hx;simp only[Yh,ZbT,Qu,Zu,hx,Bq,show (k:Int)<(l.length:Int) from by omega,if_true,Zar (show (-9223372036854775808:Int)<=(k:Int)+1 by omega) (by omega)];cases hw:within x lo hi
   ·refine .inr ⟨_,rfl,λ_=>?_,λ_=>by simp⟩
    rw[allIn,List.all_eq_false];grind
   ·refine .inl ⟨_,rfl,by simp,?_⟩
    rw[Yy hx,allIn,List.all_append];simp only[allIn] at hS;simp[hS,hw]
  ·rintro ⟨i,⟨⟩⟩ ⟨rfl,hS⟩
   rw[List.take_length] at hS;simp only[Yh,Int.lt_irrefl,if_false];grind
 obtain ⟨r,h1,h2⟩:=h1;unfold Xe Ym;grind
def Len {α:Type} (l:List α):Prop:=l.length<=4611686018427387904
theorem Ztu {k:Nat} {α:Type} {l:List α} (hl:Len l) (hk:k<=l.length):Wq ((k:Int)+1)=((k+1:Nat):Int):=by
 have:l.length<=4611686018427387904:=hl;rw[Zar (by omega) (by omega)];simp
def Zdq {α:Type} (p:α->Bool) (l:List α):Int:=match l.findIdx? p with
 | some i=>i
 | none=>-1
theorem VD {α:Type} {p:α->Bool} {l:List α}:0<=Zdq p l<->l.any p=true:=by
 unfold Zdq;grind
theorem Za4 {α ρ:Type} {l:List α} (hl:Len l) {p:α->Bool} {step:Int×Unit->Option ((Int×Unit) ⊕ ρ)} {out:Int->ρ}
  (hs:∀ (k:Nat) (x:α),l[k]?=some x->step ((k:Int),())=some (if p x=true then .inr (out k) else .inl (Wq ((k:Int)+1),())))
  (hx:step ((l.length:Int),())=some (.inr (out (-1)))):Zq step (0,())=some (out (Zdq p l)):=by
 refine Yr l.length (λk v=>v.1=(k:Int)/\∀ x∈l.take k,p x=false) _ ⟨rfl,by simp⟩ ?_ ?_
 ·rintro k ⟨i,⟨⟩⟩ hk ⟨hi,hS⟩
  simp only at hi;subst hi;have hx:l[k]?=some l[k]:=List.getElem?_eq_getElem hk;rw[hs k _ hx,Ztu hl (by omega)];split
  ·rename_i hp
   right;have:l.findIdx? p=some k:=by
    rw[List.findIdx?_eq_some_iff_getElem];refine ⟨hk,hp,λj hj=>?_⟩;have:=hS l[j] (List.mem_iff_getElem?.2 ⟨j,by grind⟩);simp[this]
   unfold Zdq;rw[this]
  ·rename_i hp
   refine .inl ⟨_,rfl,rfl,?_⟩;rw[Yy hx];grind
 ·rintro ⟨i,⟨⟩⟩ ⟨hi,hS⟩
  simp only at hi;subst hi;rw[List.take_length] at hS;have:l.findIdx? p=none:=List.findIdx?_eq_none_iff.2 hS;rw[hx];unfold Zdq;rw[this]
noncomputable def sel {ρ:Type} (P:Prop) (a b:ρ):ρ:=match tr P with
 | true=>a
 | false=>b
theorem YS {ρ:Type} {P:Prop} (h:P) (a b:ρ):sel P a b=a:=by simp[sel,Yf h]
theorem YC {ρ:Type} {P:Prop} (h:¬P) (a b:ρ):sel P a b=b:=by simp[sel,ZF h]
theorem Zkg (P:Prop):sel P true false=tr P:=by
 by_cases h:P
 ·rw[YS h,Yf h]
 ·rw[YC h,ZF h]
def ZdM {α:Type} (l:List α) (P:Nat->α->Prop):Prop:=∀ (k:Nat) (x:α),l[k]?=some x->P k x
theorem Qe {α ρ:Type} {l:List α} (hl:Len l) (P:Nat->α->Prop) {step:Int×Unit->Option ((Int×Unit) ⊕ ρ)} {bad good:ρ}
  (hs:∀ (k:Nat) (x:α),l[k]?=some x->k<l.length->(∀ (j:Nat) (y:α),j<k->l[j]?=some y->P j y)->(P k x->step ((k:Int),())=some (.inl (Wq ((k:Int)+1),())))/\(¬P k x->step ((k:Int),())=some (.inr bad)))
  (hx:ZdM l P->step ((l.length:Int),())=some (.inr good)):Zq step (0,())=some (sel (ZdM l P) good bad):=by
 refine Yr l.length (λk v=>v.1=(k:Int)/\∀ (j:Nat) (y:α),j<k->l[j]?=some y->P j y) _ ⟨rfl,λj y hj=>by omega⟩ ?_ ?_
 ·rintro k ⟨i,⟨⟩⟩ hk ⟨hi,hS⟩
  simp only at hi;subst hi;have hx:l[k]?=some l[k]:=List.getElem?_eq_getElem hk;obtain ⟨h1,h2⟩:=hs k _ hx hk hS;by_cases hP:P k l[k]
  ·rw[h1 hP,Ztu hl (by omega)]
   grind
  ·right
   rw[h2 hP,YC (λh=>hP (h k _ hx))]
 ·rintro ⟨i,⟨⟩⟩ ⟨hi,hS⟩
  simp only at hi;subst hi;have hA:ZdM l P:=λk x hk=>hS k x (List.getElem?_eq_some_iff.1 hk).1 hk;rw[hx hA,YS hA]
theorem ZpR {ρ:Type} (m n:Nat) (hmn:m<=n) (hn:n<=4611686018427387904) (P:Nat->Prop) {step:Int×Unit->Option ((Int×Unit) ⊕ ρ)} {bad good:ρ}
  (hs:∀ k:Nat,m<=k->k<n->(∀ j,m<=j->j<k->P j)->(P k->step ((k:Int),())=some (.inl (Wq ((k:Int)+1),())))/\(¬P k->step ((k:Int),())=some (.inr bad)))
  (hx:(∀ j,m<=j->j<n->P j)->step ((n:Int),())=some (.inr good)):Zq step ((m:Int),())=some (sel (∀ j,m<=j->j<n->P j) good bad):=by
 refine Yr (n-m) (λk v=>v.1=((m+k:Nat):Int)/\∀ j,m<=j->j<m+k->P j) _ ⟨by simp,λj h1 h2=>by omega⟩ ?_ ?_
 ·rintro k ⟨i,⟨⟩⟩ hk ⟨hi,hS⟩
  simp only at hi;subst hi;obtain ⟨h1,h2⟩:=hs (m+k) (by omega) (by omega) hS;by_cases hP:P (m+k)
  ·rw[h1 hP,Zar (by omega) (by omega)]
   grind
  ·right
   rw[h2 hP,YC (λh=>hP (h (m+k) (by omega) (by omega)))]
 ·rintro ⟨i,⟨⟩⟩ ⟨hi,hS⟩
  simp only at hi;subst hi;have e:m+(n-m)=n:=by omega
  rw[e] at hS ⊢;rw[hx hS,YS hS]
theorem ZD0 {l:List (List UInt8)} {v:List UInt8} (hl:Len l):Xw l v=some (Zdq (λx=>decide (v=x)) l):=by
 unfold Xw;refine Za4 (out:=λi=>i) hl (λk x hx=>?_) ?_
 ·have hk:=(List.getElem?_eq_some_iff.1 hx).1
  simp only[Xx,Zu,hx,Bq,show (k:Int)<(l.length:Int) from by omega,if_true,decide_eq_true_eq];split<;>rfl
 ·simp only[Xx,Int.lt_irrefl,if_false]
theorem Xv {l:List Zy} {f:Bool×Unit} (hl:Len l) (p:Zy->Bool) (hp:∀ x∈l,Qx x f.fst=some (p x)):ZL l f=some (Zdq p l):=by
 unfold ZL;refine Za4 (out:=λi=>i) hl (p:=p) (λk x hx=>?_) ?_
 ·have hk:=(List.getElem?_eq_some_iff.1 hx).1
  simp only[ZX,Zu,hx,Bq,show (k:Int)<(l.length:Int) from by omega,if_true,hp x (List.mem_of_getElem? hx)];split<;>rfl
 ·simp only[ZX,Int.lt_irrefl,if_false]
theorem Xm {l:List Zy} {f:Bool×Unit} (hl:Len l) (p:Zy->Bool) (hp:∀ x∈l,Qx x f.fst=some (p x)):ZG l f=some (l.any p):=by
 unfold ZG;rw[Xv hl p hp,Bq];congr 1;rw[Bool.eq_iff_iff,decide_eq_true_eq,VD]
theorem XP {l:List Yv} {f:Unit} (hl:Len l) (p:Yv->Bool) (hp:∀ x∈l,Zbk x=some (p x)):ZR l f=some (Zdq p l):=by
 unfold ZR;refine Za4 (out:=λi=>i) hl (p:=p) (λk x hx=>?_) ?_
 ·have hk:=(List.getElem?_eq_some_iff.1 hx).1
  simp only[Z7,Zu,hx,Bq,show (k:Int)<(l.length:Int) from by omega,if_true,hp x (List.mem_of_getElem? hx)];split<;>rfl
 ·simp only[Z7,Int.lt_irrefl,if_false]
theorem XE {l:List ZC} {f:ZC×Unit} (hl:Len l) (p:ZC->Bool) (hp:∀ x∈l,XC x f.fst=some (p x)):ZM l f=some (Zdq p l):=by
 unfold ZM;refine Za4 (out:=λi=>i) hl (p:=p) (λk x hx=>?_) ?_
 ·have hk:=(List.getElem?_eq_some_iff.1 hx).1
  simp only[ZY,Zu,hx,Bq,show (k:Int)<(l.length:Int) from by omega,if_true,hp x (List.mem_of_getElem? hx)];split<;>rfl
 ·simp only[ZY,Int.lt_irrefl,if_false]
theorem Xo {l:List ZC} {f:ZC×Unit} (hl:Len l) (p:ZC->Bool) (hp:∀ x∈l,XC x f.fst=some (p x)):ZJ l f=some (l.any p):=by
 unfold ZJ;rw[XE hl p hp,Bq];congr 1;rw[Bool.eq_iff_iff,decide_eq_true_eq,VD]
theorem X0 {l:List ZC} {f:Int×Unit} (hl:Len l) (p:ZC->Bool) (hp:∀ x∈l,Zay x f.fst=some (p x)):ZV l f=some (Zdq p l):=by
 unfold ZV;refine Za4 (out:=λi=>i) hl (p:=p) (λk x hx=>?_) ?_
 ·have hk:=(List.getElem?_eq_some_iff.1 hx).1
  simp only[Yc,Zu,hx,Bq,show (k:Int)<(l.length:Int) from by omega,if_true,hp x (List.mem_of_getElem? hx)];split<;>rfl
 ·simp only[Yc,Int.lt_irrefl,if_false]
theorem XG {l:List ZC} {f:Int×Unit} (hl:Len l) (p:ZC->Bool) (hp:∀ x∈l,Zay x f.fst=some (p x)):ZO l f=some (l.any p):=by
 unfold ZO;rw[X0 hl p hp,Bq];congr 1;rw[Bool.eq_iff_iff,decide_eq_true_eq,VD]
theorem XH {l:List Int} {f:Zg×Unit} (hl:Len l) (p:Int->Bool) (hp:∀ x∈l,Xd x f.fst=some (p x)):ZP l f=some (Zdq p l):=by
 unfold ZP;refine Za4 (out:=λi=>i) hl (p:=p) (λk x hx=>?_) ?_
 ·have hk:=(List.getElem?_eq_some_iff.1 hx).1
  simp only[Z5,Zu,hx,Bq,show (k:Int)<(l.length:Int) from by omega,if_true,hp x (List.mem_of_getElem? hx)];split<;>rfl
 ·simp only[Z5,Int.lt_irrefl,if_false]
theorem Xp {l:List Int} {f:Zg×Unit} (hl:Len l) (p:Int->Bool) (hp:∀ x∈l,Xd x f.fst=some (p x)):ZK l f=some (l.any p):=by
 unfold ZK;rw[XH hl p hp,Bq];congr 1;rw[Bool.eq_iff_iff,decide_eq_true_eq,VD]
theorem Q8 {l:List Int} {f:Unit} (hl:Len l) (p:Int->Bool) (hp:∀ x∈l,Zaz x=some (p x)):Yi l f=some (Zdq p l):=by
 unfold Yi;refine Za4 (out:=λi=>i) hl (p:=p) (λk x hx=>?_) ?_
 ·have hk:=(List.getElem?_eq_some_iff.1 hx).1
  simp only[Yq,Zu,hx,Bq,show (k:Int)<(l.length:Int) from by omega,if_true,hp x (List.mem_of_getElem? hx)];split<;>rfl
 ·simp only[Yq,Int.lt_irrefl,if_false]
theorem QF {l:List Int} {f:Unit} (hl:Len l) (p:Int->Bool) (hp:∀ x∈l,Zaz x=some (p x)):Yd l f=some (l.any p):=by
 unfold Yd;rw[Q8 hl p hp,Bq];congr 1;rw[Bool.eq_iff_iff,decide_eq_true_eq,VD]
theorem ZAV {l:List Zl} {f:List UInt8×Unit} (hl:Len l) (p:Zl->Bool) (hp:∀ x∈l,ZCV x f.fst=some (p x)):ZAs l f=some (Zdq p l):=by
 unfold ZAs;refine Za4 (out:=λi=>i) hl (p:=p) (λk x hx=>?_) ?_
 ·have hk:=(List.getElem?_eq_some_iff.1 hx).1
  simp only[ZAu,Zu,hx,Bq,show (k:Int)<(l.length:Int) from by omega,if_true,hp x (List.mem_of_getElem? hx)];split<;>rfl
 ·simp only[ZAu,Int.lt_irrefl,if_false]
theorem Xn {l:List Zc} {f:Z0×Unit} (hl:Len l) (p:Zc->Bool) (hp:∀ x∈l,Qj x f.fst=some (p x)):ZH l f=some (Zdq p l):=by
 unfold ZH;refine Za4 (out:=λi=>i) hl (p:=p) (λk x hx=>?_) ?_
 ·have hk:=(List.getElem?_eq_some_iff.1 hx).1
  simp only[ZU,Zu,hx,Bq,show (k:Int)<(l.length:Int) from by omega,if_true,hp x (List.mem_of_getElem? hx)];split<;>rfl
 ·simp only[ZU,Int.lt_irrefl,if_false]
theorem Xf {l:List Zc} {f:Z0×Unit} (hl:Len l) (p:Zc->Bool) (hp:∀ x∈l,Qj x f.fst=some (p x)):ZE l f=some (l.any p):=by
 unfold ZE;rw[Xn hl p hp,Bq];congr 1;rw[Bool.eq_iff_iff,decide_eq_true_eq,VD]
theorem Y2 {l:List Ze} {f:Z0×Unit} (hl:Len l) (p:Ze->Bool) (hp:∀ x∈l,Qk x f.fst=some (p x)):ZB l f=some (Zdq p l):=by
 unfold ZB;refine Za4 (out:=λi=>i) hl (p:=p) (λk x hx=>?_) ?_
 ·have hk:=(List.getElem?_eq_some_iff.1 hx).1
  simp only[ZI,Zu,hx,Bq,show (k:Int)<(l.length:Int) from by omega,if_true,hp x (List.mem_of_getElem? hx)];split<;>rfl
 ·simp only[ZI,Int.lt_irrefl,if_false]
theorem YT {l:List Ze} {f:Z0×Unit} (hl:Len l) (p:Ze->Bool) (hp:∀ x∈l,Qk x f.fst=some (p x)):Zz l f=some (l.any p):=by
 unfold Zz;rw[Y2 hl p hp,Bq];congr 1;rw[Bool.eq_iff_iff,decide_eq_true_eq,VD]
theorem ZAZ {l:List YA} {f:Int×Int×Unit} (hl:Len l) (p:YA->Bool) (hp:∀ x∈l,ZBK x f.fst f.snd.fst=some (p x)):ZAt l f=some (Zdq p l):=by
 unfold ZAt;refine Za4 (out:=λi=>i) hl (p:=p) (λk x hx=>?_) ?_
 ·have hk:=(List.getElem?_eq_some_iff.1 hx).1
  simp only[ZAx,Zu,hx,Bq,show (k:Int)<(l.length:Int) from by omega,if_true,hp x (List.mem_of_getElem? hx)];split<;>rfl
 ·simp only[ZAx,Int.lt_irrefl,if_false]
theorem ZbQ {a b:Bool} (h:a=true<->b=true):a=b:=by grind
theorem XJ {P Q:Prop} (h:P<->Q):tr P=tr Q:=by rw[propext h]
def Inc (l:List Int):Prop:=∀ (k:Nat) (x y:Int),l[k]?=some x->l[k+1]?=some y->x<y
def Zf0 (l:List Int) (lo hi:Int):Prop:=∀ x∈l,lo<=x/\x<=hi
theorem Ziy (l:List Int) (lo hi:Int):allIn l lo hi=true<->Zf0 l lo hi:=by
 unfold allIn Zf0;rw[List.all_eq_true];simp only[Y7]
theorem Zah (l:List Int):Xl l=some (l.length:Int):=rfl
theorem Zag (l:List Int) (hl:Len l):Qy l=some (tr (Inc l)):=by
 unfold Qy;have h4:l.length<=4611686018427387904:=hl;by_cases h0:l.length=0
 ·have:l=[]:=List.eq_nil_of_length_eq_zero h0
  subst this;rw[ZeP (r:=true) (by rfl)];have h0:Inc []:=λk x y h=>by simp at h
  rw[Yf h0]
 have:=ZpR (ρ:=Bool) 1 l.length (by omega) h4 (λk=>∀ x y,l[k-1]?=some x->l[k]?=some y->x<y) (step:=λv=>Xu l v.1) (bad:=false) (good:=true)
  (λk h1 h2 _=>by
   obtain ⟨x,hx⟩:∃ x,l[k-1]?=some x:=⟨_,List.getElem?_eq_getElem (by omega)⟩;obtain ⟨y,hy⟩:∃ y,l[k]?=some y:=⟨_,List.getElem?_eq_getElem h2⟩;have e1:Wq ((k:Int)-1)=((k-1:Nat):Int):=by rw[Zar (by omega) (by omega)];omega
   simp only[Xu,show (k:Int)<(l.length:Int) from by omega,if_true,e1,Zu,hx,hy,Bq];grind)
  (λ_=>by simp only[Xu,Int.lt_irrefl,if_false])
 refine (show Zq (λv=>Xu l v.1) ((1:Int),())=_ from this).trans ?_;rw[Zkg];congr 1;refine XJ ⟨λh k x y hx hy=>?_,λh j h1 h2 x y hx hy=>?_⟩
 ·exact h (k+1) (by omega) (List.getElem?_eq_some_iff.1 hy).1 x y (by simpa using hx) hy
 ·exact h (j-1) x y hx (by grind)
def Zdi (l:List Int):Prop:=1<=l.length/\l.length<=4/\Zf0 l 0 100000/\Inc l
theorem Zhw (l:List Int) (hl:Len l):Zdr l=some (tr (Zdi l)):=by
 unfold Zdr;rw[Zah,Bq,Qu,Bq,J4 l _ _ hl,Bq,Zag l hl,Bq];have e:tr (Zdi l)=(within (l.length:Int) 1 4&&allIn l 0 100000&&tr (Inc l)):=by
  refine ZkJ ?_;simp only[Bool.and_eq_true,Y7,Ziy,QM,Zdi];grind
 grind
theorem Zgt (l:List Int) (hl:Len l):ZcE l=some (tr (Zdi l)):=by
 unfold ZcE;have h4:l.length<=4611686018427387904:=hl;rw[Qe hl (λk x=>(0<=x/\x<=100000)/\(0<k->∀ y,l[k-1]?=some y->y<x)) (bad:=false) (good:=decide (1<=l.length/\l.length<=4))
  (λk x hx hk _=>by
   simp only[ZbG,show (k:Int)<(l.length:Int) from by omega,if_true,Zu,hx,Bq,Q9];by_cases hw:within x 0 100000=true
   ·rw[if_pos hw]
    by_cases h0:0<k
    ·obtain ⟨y,hy⟩:∃ y,l[k-1]?=some y:=⟨_,List.getElem?_eq_getElem (by omega)⟩
     have e1:Wq ((k:Int)-1)=((k-1:Nat):Int):=by rw[Zar (by omega) (by omega)];omega
     rw[if_pos (by omega),e1,Zu,hy,Bq];refine ⟨λh=>?_,λh=>?_⟩
     ·grind
     ·rw[if_pos]
      rcases Int.lt_or_le y x with h' | h'
      ·exact absurd ⟨(Y7 _ _ _).1 hw,λ_ z hz=>by grind⟩ h
      ·exact h'
    ·rw[if_neg (by omega)]
     exact ⟨λ_=>rfl,λh=>absurd ⟨(Y7 _ _ _).1 hw,λh'=>absurd h' h0⟩ h⟩
   ·rw[if_neg hw]
    exact ⟨λh=>absurd ((Y7 _ _ _).2 h.1) hw,λ_=>rfl⟩)
  (λ_=>by
   simp only[ZbG,Int.lt_irrefl,if_false];by_cases h1:1<=l.length
   ·rw[if_pos (by omega)]
    congr 2;grind
   grind)]
 congr 1;refine ZbQ ?_;rw[QM];by_cases h:ZdM l (λk x=>(0<=x/\x<=100000)/\(0<k->∀ y,l[k-1]?=some y->y<x))
 ·rw[YS h,decide_eq_true_eq]
  constructor
  ·rintro ⟨h1,h2⟩
   refine ⟨h1,h2,λx hx=>?_,λk x y hx hy=>?_⟩
   ·obtain ⟨k,hk⟩:=List.mem_iff_getElem?.1 hx
    exact (h k x hk).1
   ·exact (h (k+1) y hy).2 (by omega) x (by simpa using hx)
  ·intro hh
   exact ⟨hh.1,hh.2.1⟩
 ·rw[YC h]
  constructor
  ·intro hh;cases hh
  ·intro hh
   refine absurd ?_ h;intro k x hk;refine ⟨hh.2.2.1 x (List.mem_of_getElem? hk),λh0 y hy=>?_⟩;exact hh.2.2.2 (k-1) y x hy (by grind)
def ZbO (t:Zy):Prop:=Zdi (Zy.ZgK t)/\Zdi (Zy.Loads t)/\(Zy.Values t).length=(Zy.ZgK t).length*(Zy.Loads t).length/\Zf0 (Zy.Values t) (-1000000) 1000000
def Zul (t:Zy):Prop:=Len (Zy.ZgK t)/\Len (Zy.Loads t)/\Len (Zy.Values t)
theorem Zdi.mul {a b:List Int} (ha:Zdi a) (hb:Zdi b):a.length*b.length<=16:=by
 have h1:=ha.2.1;have h2:=hb.2.1
 calc a.length*b.length<=4*4:=Nat.mul_le_mul h1 h2
  _=16:=rfl
theorem ZpU {a b:List Int} (ha:Zdi a) (hb:Zdi b):Wq ((a.length:Int)*(b.length:Int))=((a.length*b.length:Nat):Int):=by
 have:=ha.mul hb;have e:(a.length:Int)*(b.length:Int)=((a.length*b.length:Nat):Int):=by simp
 rw[e,Zar (by omega) (by omega)]
theorem Zli (t:Zy) (h:Zul t):ZdY t=some (tr (ZbO t)):=by
 unfold ZdY;rw[Zhw _ h.1,Bq];by_cases h1:Zdi (Zy.ZgK t)
 ·rw[if_pos (Yf h1),Zhw _ h.2.1,Bq]
  by_cases h2:Zdi (Zy.Loads t)
  ·rw[if_pos (Yf h2),ZpU h1 h2]
   by_cases h3:(Zy.Values t).length=(Zy.ZgK t).length*(Zy.Loads t).length
   ·rw[if_pos (by rw[h3]),J4 _ _ _ h.2.2,Bq]
    congr 1;refine ZbQ ?_;rw[Ziy,QM];exact ⟨λh4=>⟨h1,h2,h3,h4⟩,λh4=>h4.2.2.2⟩
   ·rw[if_neg (by omega),ZF (λhh=>h3 hh.2.2.1)]
  ·rw[if_neg (by rw[ZF h2];simp),ZF (λhh=>h2 hh.2.1)]
 ·rw[if_neg (by rw[ZF h1];simp),ZF (λhh=>h1 hh.1)]
theorem Zl7 (t:Zy) (h:Zul t):Zep t=some (tr (ZbO t)):=by
 unfold Zep;rw[Zgt _ h.1,Bq];by_cases h1:Zdi (Zy.ZgK t)
 ·rw[if_pos (Yf h1),Zgt _ h.2.1,Bq]
  by_cases h2:Zdi (Zy.Loads t)
  ·rw[if_pos (Yf h2),ZpU h1 h2]
   by_cases h3:(Zy.Values t).length=(Zy.ZgK t).length*(Zy.Loads t).length
   ·rw[if_pos (by rw[h3]),Qe h.2.2 (λk x=>-1000000<=x/\x<=1000000) (bad:=false) (good:=true)
     (λk x hx hk _=>by
      simp only[ZbF,show (k:Int)<((Zy.Values t).length:Int) from by omega,if_true,Zu,hx,Bq,Q9,Y7];grind)
     (λ_=>by simp only[ZbF,Int.lt_irrefl,if_false]),Zkg]
    congr 1;refine XJ ⟨λh4=>⟨h1,h2,h3,λx hx=>?_⟩,λh4 k x hx=>h4.2.2.2 x (List.mem_of_getElem? hx)⟩;obtain ⟨k,hk⟩:=List.mem_iff_getElem?.1 hx;exact h4 k x hk
   ·rw[if_neg (by omega),ZF (λhh=>h3 hh.2.2.1)]
  ·rw[if_neg (by rw[ZF h2];simp),ZF (λhh=>h2 hh.2.1)]
 ·rw[if_neg (by rw[ZF h1];simp),ZF (λhh=>h1 hh.1)]
theorem ZnL (x:Int) (l:List Int) (hl:Len (x::l)):Qs (x::l)=some (l.foldl min x):=by
 unfold Qs;have h4:(x::l).length<=4611686018427387904:=hl;have e1:¬(((x::l).length:Int)<1):=by grind
 have e2:atI (x::l) (0:Int)=some x:=rfl;rw[if_neg e1,e2,Bq];refine Yr l.length (λk v=>v.1=(l.take k).foldl min x/\v.2.1=(((k+1:Nat)):Int)) _ ⟨by simp,rfl⟩ ?_ ?_
 ·rintro k ⟨m,i,⟨⟩⟩ hk ⟨hm,hi⟩
  simp only at hm hi;subst hm;subst hi;have hx:l[k]?=some l[k]:=List.getElem?_eq_getElem hk;have hx1:(x::l)[k+1]?=some l[k]:=by simp
  simp only[Qf,Zu,hx1,Bq,show ((k+1:Nat):Int)<((x::l).length:Int) from by simp;omega,if_true];refine .inl ⟨_,rfl,?_,?_⟩
  ·rw[Yy hx,List.foldl_append];rfl
  ·simp only[List.length_cons] at h4
   show Wq (((k+1:Nat):Int)+1)=((k+1+1:Nat):Int);rw[Zar (by omega) (by omega)];omega
 ·rintro ⟨m,i,⟨⟩⟩ ⟨hm,hi⟩
  simp only at hm hi;subst hm;subst hi;rw[List.take_length];simp only[Qf,show ¬(((l.length+1:Nat):Int)<((x::l).length:Int)) from by simp,if_false]
theorem ZiJ (x:Int) (l:List Int):l.foldl min x<0<->x<0\/∃ y∈l,y<0:=by
 induction l generalizing x with
 | nil=>simp
 | cons y r ih =>
  simp only[List.foldl_cons,ih,List.mem_cons,exists_eq_or_imp];grind
def Zcs (l:List Zy) (pos:Bool):Prop:=l.length=2/\∀ t∈l,ZbO t/\(pos=true->∀ v∈Zy.Values t,0<=v)
theorem ZbO.some {t:Zy} (h:ZbO t):∃ x l,Zy.Values t=x::l:=by
 have h1:=h.1.1;have h2:=h.2.1.1;have h3:=h.2.2.1;have:1*1<=(Zy.ZgK t).length*(Zy.Loads t).length:=Nat.mul_le_mul h1 h2;cases hv:Zy.Values t with
 | nil=>grind
 | cons x l=>exact ⟨x,l,rfl⟩
theorem Zhc (t:Zy) (pos:Bool) (h:Zul t):Qx t pos=some (! tr (ZbO t/\(pos=true->∀ v∈Zy.Values t,0<=v))):=by
 unfold Qx;rw[Zli _ h,Bq];by_cases h1:ZbO t
 ·rw[if_pos (Yf h1)]
  cases pos
  ·rw[if_neg (by simp),Yf ⟨h1,λe=>by cases e⟩];rfl
  ·obtain ⟨x,l,hv⟩:=h1.some
   have hlen:=h.2.2;rw[if_pos rfl,hv];rw[hv] at hlen;rw[ZnL x l hlen,Bq];congr 1;refine ZbQ ?_;rw[decide_eq_true_eq,ZiJ,Bool.not_eq_true',<-Bool.not_eq_true,QM];constructor
   ·rintro (hh | ⟨y,hy,hh⟩) ⟨_,hall⟩
    ·have:=hall rfl x (by simp);omega
    grind
   grind
 ·rw[if_neg (by rw[ZF h1];simp),ZF (λhh=>h1 hh.1)];rfl
def ZtG (l:List Zy):Prop:=Len l/\∀ t∈l,Zul t
theorem ZbS (l:List Zy) (pos:Bool) (h:ZtG l):V8 l pos=some (tr (Zcs l pos)):=by
 unfold V8;by_cases h2:l.length=2
 ·rw[if_pos (by omega),Xm h.1 (λt=>! tr (ZbO t/\(pos=true->∀ v∈Zy.Values t,0<=v))) (λt ht=>Zhc t pos (h.2 t ht)),Bq]
  congr 1;refine ZbQ ?_;rw[Bool.not_eq_true',List.any_eq_false,QM];simp only[Bool.not_eq_true',Bool.not_eq_false,QM,Bool.not_eq_true];exact ⟨λhh=>⟨h2,hh⟩,λhh=>hh.2⟩
 ·rw[if_neg (by omega),ZF (λhh=>h2 hh.1)]
theorem Zfh {α τ ρ:Type} {l:List α} (pk:Nat->τ) (P:Nat->α->Prop) {step:τ->Option (τ ⊕ ρ)} {bad good:ρ}
  (hs:∀ (k:Nat) (x:α),l[k]?=some x->k<l.length->(∀ (j:Nat) (y:α),j<k->l[j]?=some y->P j y)->(P k x->step (pk k)=some (.inl (pk (k+1))))/\(¬P k x->step (pk k)=some (.inr bad)))
  (hx:ZdM l P->step (pk l.length)=some (.inr good)):Zq step (pk 0)=some (sel (ZdM l P) good bad):=by
 refine Yr l.length (λk v=>v=pk k/\∀ (j:Nat) (y:α),j<k->l[j]?=some y->P j y) _ ⟨rfl,λj y hj=>by omega⟩ ?_ ?_
 ·rintro k v hk ⟨rfl,hS⟩
  have hx:l[k]?=some l[k]:=List.getElem?_eq_getElem hk;obtain ⟨h1,h2⟩:=hs k _ hx hk hS;by_cases hP:P k l[k]
  ·grind
  ·right
   rw[h2 hP,YC (λh=>hP (h k _ hx))]
 ·rintro v ⟨rfl,hS⟩
  have hA:ZdM l P:=λk x hk=>hS k x (List.getElem?_eq_some_iff.1 hk).1 hk;rw[hx hA,YS hA]
theorem JF {α τ ρ:Type} {l:List α} (pk:Nat->τ) {step:τ->Option (τ ⊕ ρ)} {good:ρ}
  (hs:∀ (k:Nat) (x:α),l[k]?=some x->k<l.length->step (pk k)=some (.inl (pk (k+1)))) (hx:step (pk l.length)=some (.inr good)):Zq step (pk 0)=some good:=by
 have:=Zfh (l:=l) pk (λ_ _=>True) (step:=step) (bad:=good) (good:=good) (λk x h1 h2 _=>⟨λ_=>hs k x h1 h2,λh=>absurd trivial h⟩) (λ_=>hx);rw[this,YS (show ZdM l (λ_ _=>True) from λ_ _ _=>trivial)]
theorem ZlO {ρ:Type} (n:Nat) (hn:n<=4611686018427387904) (P:Nat->Prop) {step:Int×Unit->Option ((Int×Unit) ⊕ ρ)} {bad good:ρ}
  (hs:∀ k:Nat,k<n->(P k->step ((k:Int),())=some (.inl (Wq ((k:Int)+1),())))/\(¬P k->step ((k:Int),())=some (.inr bad)))
  (hx:(∀ j,j<n->P j)->step ((n:Int),())=some (.inr good)):Zq step ((0:Int),())=some (sel (∀ j,j<n->P j) good bad):=by
 have:=ZpR (ρ:=ρ) 0 n (by omega) hn P (step:=step) (bad:=bad) (good:=good) (λk _ h _=>hs k h) (λh=>hx (λj hj=>h j (by omega) hj));grind
theorem Yt {t:Ty} {l:List t.den} (h:sm (.sl t) l):Len l:=by
 have h1:(l.length:Int)<=1048576:=h.1;show l.length<=4611686018427387904;omega
theorem ZdL {s:List UInt8} (h:sm .str s):s.length<=4611686018427387904:=by
 have h1:(s.length:Int)<=1048576:=h;omega
theorem Zgr {t:Ty} {l:List t.den} (h:sm (.sl t) l) {x:t.den} (hx:x∈l):sm t x:=h.2 x hx
theorem ZeM {t:Ty} {l:List t.den} (h:sm (.sl t) l) {k:Nat} {x:t.den} (hx:l[k]?=some x):sm t x:=h.2 x (List.mem_of_getElem? hx)
theorem Zv {t:Ty} {l:List t.den} (h:sm (.sl t) l):l.length<=1048576:=by
 have h1:(l.length:Int)<=1048576:=h.1;omega
theorem ZqJ {t:Zy} (h:sm XF t):Zul t:=⟨Yt (t:=.int .i64) h.1,Yt (t:=.int .i64) h.2.1,Yt (t:=.int .i64) h.2.2.1⟩
theorem Zfx {l:List Zy} (h:sm (.sl XF) l):ZtG l:=⟨Yt h,λt ht=>ZqJ (Zgr h ht)⟩
theorem Zir (t:Zy) (h:Zul t):∃ r,ZaE t=some r/\(ZbO t->r.2=0/\(r.1.1<0<->∃ v∈Zy.Values t,v<0))/\(¬ZbO t->r.2=1):=by
 unfold ZaE;rw[Zl7 _ h,Bq];by_cases h1:ZbO t
 ·rw[if_pos (Yf h1)]
  obtain ⟨x,l,hv⟩:=h1.some;have h4:(x::l).length<=4611686018427387904:=by rw[<-hv];exact h.2.2
  have e2:atI (Zy.Values t) (0:Int)=some x:=by rw[hv];rfl
  rw[e2,Bq];have:=JF (l:=l) (ρ:=Yb×Int) (λk=>((((k+1:Nat)):Int),(l.take k).foldl min x,(l.take k).foldl max x,())) (step:=λv=>QJ t v.1 v.2.1 v.2.2.1) (good:=((l.foldl min x,l.foldl max x,()),0))
   (λk y hy hk=>by
    have hx1:(x::l)[k+1]?=some y:=by simpa using hy
    simp only[List.length_cons] at h4;simp only[QJ,hv,Zu,hx1,Bq,show ((k+1:Nat):Int)<((x::l).length:Int) from by simp;omega,if_true];rw[Yy hy,List.foldl_append,List.foldl_append,Zar (by omega) (by omega)];rfl)
   (by
    simp only[QJ,hv,List.take_length,show ¬(((l.length+1:Nat):Int)<((x::l).length:Int)) from by simp,if_false])
  refine ⟨_,this,λ_=>⟨rfl,?_⟩,λhn=>absurd h1 hn⟩;rw[hv];refine (ZiJ x l).trans ?_;simp
 ·rw[if_neg (by rw[ZF h1];simp)]
  grind
theorem Zb5 (l:List Zy) (pos:Bool) (h:ZtG l):Yo l pos=some (tr (Zcs l pos)):=by
 unfold Yo;by_cases h2:l.length=2
 ·rw[if_pos (by omega),Qe h.1 (λk t=>ZbO t/\(pos=true->∀ v∈Zy.Values t,0<=v)) (bad:=false) (good:=true)
   (λk t hx hk _=>by
    obtain ⟨r,hr,hr1,hr2⟩:=Zir t (h.2 t (List.mem_of_getElem? hx));simp only[Zam,show (k:Int)<2 from by omega,if_true,Zu,hx,Bq,hr];by_cases ht:ZbO t;all_goals grind)
   (λ_=>by simp only[Zam,h2];rfl),Zkg]
  congr 1;refine XJ ⟨λhh=>⟨h2,λt ht=>?_⟩,λhh k t hk=>hh.2 t (List.mem_of_getElem? hk)⟩;obtain ⟨k,hk⟩:=List.mem_iff_getElem?.1 ht;exact hh k t hk
 ·rw[if_neg (by omega),ZF (λhh=>h2 hh.1)]
def ZcQ (l:List Yv):List (List UInt8):=l.map Yv.Name
def Zkz (l:List Yv):Nat:=l.countP (λp=>Yv.Clock p)
def ZnZ (n k:Nat) (p:Yv):Prop:=(0<=Yv.Cap p/\Yv.Cap p<=500)/\(k+1=n->Yv.Dir p=2/\Yv.Cap p=0/\Yv.Clock p=false)/\(k+1<n->Yv.Dir p=1)
def Zhp (l:List Yv):Prop:=2<=l.length/\l.length<=5/\X6 (ZcQ l) l.length/\ZdM l (ZnZ l.length)
theorem Zlk (l:List Yv) (h:sm (.sl ZfZ) l):ZdZ l=some (tr (Zhp l)):=by
 unfold ZdZ;have hs:=Zv h;have:=Zfh (l:=l) (ρ:=Bool) (λk=>((ZcQ l).take k,(k:Int),())) (ZnZ l.length) (step:=λv=>Q6 l v.1 v.2.1) (bad:=false) (good:=tr (2<=l.length/\l.length<=5/\X6 (ZcQ l) l.length))
  (λk p hx hk _=>by
   have hn:(ZcQ l)[k]?=some (Yv.Name p):=by simp[ZcQ,hx]
   have e1:Wq ((l.length:Int)-1)=((l.length-1:Nat):Int):=by rw[Zar (by omega) (by omega)];omega
   simp only[Q6,show (k:Int)<(l.length:Int) from by omega,if_true,Zu,hx,Bq,e1];rw[Zd (by grind),Yy hn,Zar (by omega) (by omega)];unfold ZnZ;by_cases hlast:(k:Int)=((l.length-1:Nat):Int)
   ·grind
   ·rw[if_neg hlast,Qu]
    have hk1:k+1<l.length:=by omega
    simp only[Bq,Y7];grind)
  (λhA=>by
   have e0:(ZcQ l).take l.length=ZcQ l:=by rw[show l.length=(ZcQ l).length by simp[ZcQ],List.take_length]
   simp only[Q6,Int.lt_irrefl,if_false,e0,Qu,Bq,show Vn l=some (l.length:Int) from rfl];have hlen:(ZcQ l).length=l.length:=by simp[ZcQ]
   by_cases hw:within (l.length:Int) 2 5=true
   ·rw[if_pos hw,Qd _ (by rw[hlen];omega),Bq,hlen]
    rw[Y7] at hw;grind
   ·rw[if_neg hw,ZF]
    intro hh;exact hw ((Y7 _ _ _).2 (by omega)))
 refine (show Zq (λv=>Q6 l v.1 v.2.1) (([]:List (List UInt8)),(0:Int),())=_ from this).trans ?_;congr 1;refine ZbQ ?_;rw[QM];by_cases hA:ZdM l (ZnZ l.length)
 ·rw[YS hA,QM]
  exact ⟨λhh=>⟨hh.1,hh.2.1,hh.2.2,hA⟩,λhh=>⟨hh.1,hh.2.1,hh.2.2.1⟩⟩
 ·rw[YC hA]
  exact ⟨λhh=>(by cases hh),λhh=>absurd hh.2.2.2 hA⟩
theorem Zj5 {n:Nat} (h:n<=1048576) (h1:1<=n):Wq ((n:Int)-1)=((n-1:Nat):Int):=by rw[Zar (by omega) (by omega)];omega
theorem Jb {n:Nat} (h:n<=1048576):Wq ((n:Int)+1)=((n+1:Nat):Int):=by rw[Zar (by omega) (by omega)];omega
theorem ZhD {l:List Yv} {k:Nat} {s:List UInt8}:s ∉ (ZcQ l).take k<->∀ (j:Nat) (q:Yv),j<k->l[j]?=some q->Yv.Name q≠s:=by
 constructor
 ·intro h j q hj hq e
  refine h (List.mem_iff_getElem?.2 ⟨j,?_⟩);rw[List.getElem?_take,if_pos hj];simp[ZcQ,hq,e]
 ·intro h hm
  obtain ⟨j,hj⟩:=List.mem_iff_getElem?.1 hm;rw[List.getElem?_take] at hj;split at hj
  ·rename_i hjk
   simp only[ZcQ,List.getElem?_map,Option.map_eq_some_iff] at hj;obtain ⟨q,hq,e⟩:=hj;exact h j q hjk hq e
  ·cases hj
theorem Zl8 (c:Zk) (h:sm (.sl ZfZ) (Zk.Yz c)):Zeq c=some (sel (Zhp (Zk.Yz c)) ((Zkz (Zk.Yz c):Int),true) ((0:Int),false)):=by
 unfold Zeq;have hs:=Zv h;by_cases h2:((Zk.Yz c).length:Int)<2
 ·rw[if_pos h2,YC (λhh=>by have:=hh.1;omega)]
 by_cases h5:(5:Int)<((Zk.Yz c).length:Int)
 ·rw[if_neg h2,if_pos h5,YC (λhh=>by have:=hh.2.1;omega)]
 rw[if_neg h2,if_neg h5];have e1:Wq (((Zk.Yz c).length:Int)-1)=(((Zk.Yz c).length-1:Nat):Int):=Zj5 hs (by omega);have:=Zfh (l:=Zk.Yz c) (ρ:=Int×Bool) (λk=>((((Zk.Yz c).take k).countP (λp=>Yv.Clock p):Int),(k:Int),()))
  (λk p=>(QL (Yv.Name p)=true/\∀ (j:Nat) (q:Yv),j<k->(Zk.Yz c)[j]?=some q->Yv.Name q≠Yv.Name p)/\ZnZ (Zk.Yz c).length k p) (step:=λv=>Va c v.1 v.2.1) (bad:=((0:Int),false)) (good:=((Zkz (Zk.Yz c):Int),true))
  (λk p hx hk _=>by
   have hcnt:((Zk.Yz c).take k).countP (λp=>Yv.Clock p)<=5:=by
    have h1:=List.countP_le_length (p:=λp=>Yv.Clock p) (l:=(Zk.Yz c).take k);rw[List.length_take] at h1;omega
   have hnext:((Zk.Yz c).take (k+1)).countP (λp=>Yv.Clock p)=((Zk.Yz c).take k).countP (λp=>Yv.Clock p)+if Yv.Clock p=true then 1 else 0:=by
    rw[Yy hx,List.countP_append];simp[List.countP_cons]
   have hname:(Yv.Name p).length<=4611686018427387904:=ZdL (ZeM h hx).1;have rest:∀ (v:Int),Qc c v (k:Int) p (k:Int)=sel (QL (Yv.Name p)=true/\ZnZ (Zk.Yz c).length k p) (some (Sum.inr (Sum.inl (if Yv.Clock p=true then Wq (v+1) else v,((k+1:Nat):Int),())))) (some (Sum.inr (Sum.inr (0,false)))):=by
    intro v;simp only[Qc,Int.lt_irrefl,if_false,JJ _ hname,Q9,Bq,e1,Jb (show k<=1048576 by omega),Y7];unfold ZnZ;by_cases hn:QL (Yv.Name p)=true
    ·by_cases hcap:0<=Yv.Cap p/\Yv.Cap p<=500
     ·by_cases hlast:k+1=(Zk.Yz c).length
      ·have e2:(k:Int)=(((Zk.Yz c).length-1:Nat):Int):=by omega
       have e3:¬((k:Int)<(((Zk.Yz c).length-1:Nat):Int)):=by omega
       have e4:¬(k+1<(Zk.Yz c).length):=by omega
       rw[if_pos hn,if_pos hcap,if_pos e2];by_cases a:Yv.Dir p=2
       ·by_cases b:Yv.Cap p=0
        ·by_cases d:Yv.Clock p=true
         ·rw[if_pos a,if_pos b,if_pos d,YC]
          rintro ⟨_,_,h',_⟩;have:=(h' hlast).2.2;rw[d] at this;cases this
         ·rw[if_pos a,if_pos b,if_neg d,if_neg e3,if_neg d,YS ⟨hn,hcap,λ_=>⟨a,b,by simpa using d⟩,λh'=>absurd h' e4⟩]
          simp[d]
        ·rw[if_pos a,if_neg b,YC]
         rintro ⟨_,_,h',_⟩;exact b (h' hlast).2.1
       ·rw[if_neg a,YC]
        rintro ⟨_,_,h',_⟩;exact a (h' hlast).1
      ·have e2:¬(k:Int)=(((Zk.Yz c).length-1:Nat):Int):=by omega
       have e3:(k:Int)<(((Zk.Yz c).length-1:Nat):Int):=by omega
       have e4:k+1<(Zk.Yz c).length:=by omega
       rw[if_pos hn,if_pos hcap,if_neg e2,if_pos e3];by_cases a:Yv.Dir p=1
       ·rw[if_pos a,YS ⟨hn,hcap,λh'=>absurd h' hlast,λ_=>a⟩]
        by_cases d:Yv.Clock p=true
        ·rw[if_pos d,if_pos d]
        ·rw[if_neg d,if_neg d]
       ·rw[if_neg a,YC]
        rintro ⟨_,_,_,h'⟩;exact a (h' e4)
     ·rw[if_pos hn,if_neg hcap,YC (λhh=>hcap hh.2.1)]
    ·rw[if_neg hn,YC (λhh=>hn hh.1)]
   have inner:∀ (v:Int) (good:(Int×Int×Unit) ⊕ (Int×Bool)),((∀ (j:Nat) (q:Yv),j<k->(Zk.Yz c)[j]?=some q->Yv.Name q≠Yv.Name p)->Qc c v (k:Int) p (k:Int)=some (.inr good))->
     Zq (λv'=>Qc c v (k:Int) p v'.1) ((0:Int),())=some (sel (∀ j,j<k->∀ q,(Zk.Yz c)[j]?=some q->Yv.Name q≠Yv.Name p) good (.inr (0,false))):=by
    intro v good hg;refine ZlO k (by omega) (λj=>∀ q,(Zk.Yz c)[j]?=some q->Yv.Name q≠Yv.Name p) (λj hj=>?_) (λhh=>hg (λj q hj hq=>hh j hj q hq));obtain ⟨q,hq⟩:∃ q,(Zk.Yz c)[j]?=some q:=⟨_,List.getElem?_eq_getElem (by omega)⟩;simp only[Qc,show (j:Int)<(k:Int) from by omega,if_true,Zu,hq,Bq];refine ⟨λhh=>by rw[if_neg (hh q rfl)],λhh=>?_⟩;rw[if_pos];apply Classical.byContradiction;intro hne;exact hh (λq' hq'=>by injection hq' with hq';subst hq';exact hne)
   simp only[Va,show (k:Int)<((Zk.Yz c).length:Int) from by omega,if_true,Zu,hx,Bq];constructor
   ·rintro ⟨⟨a,b⟩,d⟩
    rw[inner _ (.inl (((((Zk.Yz c).take (k+1)).countP (λp=>Yv.Clock p):Nat):Int),((k+1:Nat):Int),())) (λ_=>by
     rw[rest,YS ⟨a,d⟩,hnext];by_cases hc:Yv.Clock p=true
     ·rw[if_pos hc,if_pos hc,Jb (by omega)]
     ·rw[if_neg hc,if_neg hc];rfl),YS (λj hj q hq=>b j q hj hq)]
   ·intro hh
    rw[inner _ (.inr (0,false)) (λhn=>by
     rw[rest,YC (λh'=>hh ⟨⟨h'.1,hn⟩,h'.2⟩)])]
    by_cases hP:∀ j,j<k->∀ q,(Zk.Yz c)[j]?=some q->Yv.Name q≠Yv.Name p
    ·rw[YS hP]
    ·rw[YC hP])
  (λ_=>by simp only[Va,Int.lt_irrefl,if_false,List.take_length];rfl)
 refine (show Zq (λv=>Va c v.1 v.2.1) ((0:Int),(0:Int),())=_ from this).trans ?_;congr 1;have e:ZdM (Zk.Yz c) (λk p=>(QL (Yv.Name p)=true/\∀ (j:Nat) (q:Yv),j<k->(Zk.Yz c)[j]?=some q->Yv.Name q≠Yv.Name p)/\ZnZ (Zk.Yz c).length k p)<->Zhp (Zk.Yz c):=by
  constructor
  ·intro hA
   refine ⟨by omega,by omega,λj s hj hs'=>?_,λk p hp=>(hA k p hp).2⟩;simp only[ZcQ,List.getElem?_map,Option.map_eq_some_iff] at hs';obtain ⟨q,hq,rfl⟩:=hs';exact ⟨(hA j q hq).1.1,ZhD.2 (hA j q hq).1.2⟩
  ·intro hh k p hp
   have hk:=(List.getElem?_eq_some_iff.1 hp).1;have hn:=hh.2.2.1 k (Yv.Name p) hk (by simp[ZcQ,hp]);exact ⟨⟨hn.1,ZhD.1 hn.2⟩,hh.2.2.2 k p hp⟩
 rw[propext e]
def Zni (l:List Yv) (i:Int):Bool:=match l[i.toNat]? with
 | some p=>Yv.Clock p
 | none=>false
def Zjn (c:Zk) (a:ZC):Prop :=
  (0<=ZC.From a/\ZC.From a<=((Zk.Yz c).length:Int)-2)/\(0<=ZC.To a/\ZC.To a<=((Zk.Yz c).length:Int)-1)/\
  ((ZC.Kind a=1/\Zni (Zk.Yz c) (ZC.From a)=false/\ZC.To a=((Zk.Yz c).length:Int)-1/\(1<=ZC.Za7 a/\ZC.Za7 a<=3)/\Zcs (ZC.Delay a) true/\Zcs (ZC.Za2 a) true)\/
   ((ZC.Kind a=2\/ZC.Kind a=3)/\Zni (Zk.Yz c) (ZC.From a)=true/\ZC.To a=((Zk.Yz c).length:Int)-1/\ZC.Za7 a=0/\Zcs (ZC.Delay a) true/\Zcs (ZC.Za2 a) true)\/
   ((ZC.Kind a=4\/ZC.Kind a=5)/\Zni (Zk.Yz c) (ZC.From a)=true/\ZC.To a<((Zk.Yz c).length:Int)-1/\Zni (Zk.Yz c) (ZC.To a)=false/\ZC.Za7 a=0/\Zcs (ZC.Delay a) false/\(ZC.Za2 a).length=0))
theorem Zjn.kind {c:Zk} {a:ZC} (h:Zjn c a):1<=ZC.Kind a/\ZC.Kind a<=5:=by
 rcases h.2.2 with h | h | h
 all_goals grind
theorem ZKZ {P Q:Prop} {m:Option Bool} (hm:m=some (tr Q)):(if tr P=true then m else some false)=some (tr (P/\Q)):=by
 by_cases h:P
 ·rw[if_pos (Yf h),hm];grind
 ·rw[if_neg (by rw[ZF h];simp),ZF (λq=>h q.1)]
theorem Xc {P Q:Prop} {_:Decidable P} {m:Option Bool} (hm:P->m=some (tr Q)):(if P then m else some false)=some (tr (P/\Q)):=by
 by_cases h:P
 ·grind
 ·rw[if_neg h,ZF (λq=>h q.1)]
theorem Zdj {P Q:Prop} {_:Decidable P} {m:Option Bool} (hm:¬P->m=some (tr Q)):(if P then some false else m)=some (tr (¬P/\Q)):=by
 by_cases h:P
 ·rw[if_pos h,ZF (λq=>q.1 h)]
 grind
theorem Zaf {P:Prop} {b:Bool} (h:b=true<->P):some b=some (tr P):=by rw[ZkJ h]
theorem ZcH {m:Option Bool} {P Q:Prop} (h:m=some (tr P)) (hpq:P<->Q):m=some (tr Q):=by rw[h,propext hpq]
theorem Zm2 {Q:Prop} (h:¬Q):(some false:Option Bool)=some (tr Q):=by rw[ZF h]
theorem ZbP {P:Prop} {m:Option Bool} (h:m=some (tr P)):(m.bind λb=>some b)=some (tr P):=by rw[h];rfl
theorem Yw {P Q:Prop} {m m2:Option Bool} (h:m=some (tr P)) (h2:P->m2=some (tr Q)):(m.bind λb=>if b=true then m2 else some false)=some (tr (P/\Q)):=by
 rw[h,Bq];by_cases hp:P
 ·rw[if_pos (Yf hp),h2 hp];grind
 ·rw[if_neg (by rw[ZF hp];simp),ZF (λq=>hp q.1)]
theorem Zpm {P Q:Prop} {m m2:Option Bool} (h:m=some (tr P)) (h2:¬P->m2=some (tr Q)):(m.bind λb=>if b=true then some false else m2)=some (tr (¬P/\Q)):=by
 rw[h,Bq];by_cases hp:P
 ·rw[if_pos (Yf hp),ZF (λq=>q.1 hp)]
 ·rw[if_neg (by rw[ZF hp];simp),h2 hp];grind
theorem Qr (n a b:Int):ZN n a b=some (tr (a<=n/\n<=b)):=by rw[Q9];exact Zaf (Y7 _ _ _)
theorem XB (n a b:Int):ZQ n a b=some (tr (a<=n/\n<=b)):=by rw[Qu];exact Zaf (Y7 _ _ _)
theorem ZrS {l:List Yv} {i:Int} (h0:0<=i) (h1:i<l.length):∃ p,atI l i=some p/\Zni l i=Yv.Clock p:=by
 obtain ⟨p,h2,h3⟩:=ZmO h0 h1;exact ⟨p,h2,by simp[Zni,h3]⟩
theorem ZmH (c:Zk) (a:ZC) (hp:sm (.sl ZfZ) (Zk.Yz c)) (hd:sm (.sl XF) (ZC.Delay a)) (hw:sm (.sl XF) (ZC.Za2 a)) (h2:2<=(Zk.Yz c).length):Zfu c a=some (tr (Zjn c a)):=by
 unfold Zfu;have hs:=Zv hp;have e1:Wq (((Zk.Yz c).length:Int)-1)=((Zk.Yz c).length:Int)-1:=Zar (by omega) (by omega);have e2:Wq (((Zk.Yz c).length:Int)-1-1)=((Zk.Yz c).length:Int)-2:=by rw[Zar (by omega) (by omega)];omega
 rw[e1,e2];refine ZcH (Yw (Qr _ _ _) (λhF=>Yw (Qr _ _ _) (λhT=>?_))) (Q:=Zjn c a) (P:=(0<=ZC.From a/\ZC.From a<=((Zk.Yz c).length:Int)-2)/\(0<=ZC.To a/\ZC.To a<=((Zk.Yz c).length:Int)-1)/\Zjn c a) ⟨λhh=>hh.2.2,λhh=>⟨hh.1,hh.2.1,hh⟩⟩;obtain ⟨p,hp1,hp2⟩:=ZrS (l:=Zk.Yz c) hF.1 (by omega);rw[hp1,Bq];have hdl:=Zfx hd;have hsl:=Zfx hw;have tt:∀ b,(Yo (ZC.Delay a) b).bind (λx=>if x=true then (Yo (ZC.Za2 a) b).bind (λy=>some y) else some false)=some (tr (Zcs (ZC.Delay a) b/\Zcs (ZC.Za2 a) b)):=λb=>Yw (Zb5 _ _ hdl) (λ_=>ZbP (Zb5 _ _ hsl));have tz:(Yo (ZC.Delay a) false).bind (λx=>if x=true then some (Decidable.decide (((ZC.Za2 a).length:Int)=(0:Int))) else some false)=some (tr (Zcs (ZC.Delay a) false/\(ZC.Za2 a).length=0)):=Yw (Zb5 _ _ hdl) (λ_=>Zaf (by grind));unfold Zjn;rw[hp2];by_cases k1:ZC.Kind a=1
 ·simp only[k1,if_true]
  refine ZcH (Zdj (λhc=>Xc (λhl=>Yw (Qr _ _ _) (λ_=>tt true)))) ?_;grind
 by_cases k2:ZC.Kind a=2
 ·simp only[k2,if_true,Int.reduceEq,if_false]
  refine ZcH (Xc (λhc=>Xc (λhl=>Xc (λ_=>tt true)))) ?_;grind
 by_cases k3:ZC.Kind a=3
 ·simp only[k3,if_true,Int.reduceEq,if_false]
  refine ZcH (Xc (λhc=>Xc (λhl=>Xc (λ_=>tt true)))) ?_;grind
 have chk:(if Yv.Clock p=true then (if ZC.To a<((Zk.Yz c).length:Int)-1 then (atI (Zk.Yz c) (ZC.To a)).bind (λx1=>if Yv.Clock x1=true then some false else if ZC.Za7 a=0 then (Yo (ZC.Delay a) false).bind (λx=>if x=true then some (Decidable.decide (((ZC.Za2 a).length:Int)=(0:Int))) else some false) else some false) else some false) else some false) =
   some (tr (Yv.Clock p=true/\ZC.To a<((Zk.Yz c).length:Int)-1/\Zni (Zk.Yz c) (ZC.To a)=false/\ZC.Za7 a=0/\Zcs (ZC.Delay a) false/\(ZC.Za2 a).length=0)):=by
  refine Xc (λ_=>Xc (λhl=>?_));obtain ⟨q,hq1,hq2⟩:=ZrS (l:=Zk.Yz c) hT.1 (by omega);rw[hq1,Bq,hq2];refine ZcH (Zdj (λ_=>Xc (λ_=>tz))) ?_;grind
 by_cases k4:ZC.Kind a=4
 ·grind
 by_cases k5:ZC.Kind a=5
 ·grind
 ·simp only[k1,k2,k3,k4,k5,if_false]
  refine Zm2 ?_;grind
def ZhN (l:List Yv):Int:=Zdq (λp=>Yv.Clock p) l
theorem ZiL (c:Zk) (h:sm (.sl ZfZ) (Zk.Yz c)):Zbj c=some (ZhN (Zk.Yz c)):=by
 unfold Zbj;rw[XP (Yt h) (λp=>Yv.Clock p) (λp _=>rfl),Bq];rfl
theorem ZaI (c:Zk) (h:sm (.sl ZfZ) (Zk.Yz c)):VT c=some (((Zk.Yz c).length:Int)-1):=by
 have hs:=Zv h;show some (Wq (((Zk.Yz c).length:Int)-1))=_;rw[Zar (by omega) (by omega)]
theorem ZcM (c:Zk) (i:Int) (h:sm (.sl ZfZ) (Zk.Yz c)):Vs c i=some (tr (0<=i/\i<=((Zk.Yz c).length:Int)-2)):=by
 have hs:=Zv h;unfold Vs;rw[ZaI c h,Bq,Zar (by omega) (by omega)];refine ZcH (ZbP (XB _ _ _)) ?_;omega
def Zsk (c:Zk) (a:ZC):Prop :=
 ((ZC.Kind a=4\/ZC.Kind a=5)/\ZC.Za7 a=0/\(ZC.Za2 a).length=0/\Zcs (ZC.Delay a) false/\ZC.From a=ZhN (Zk.Yz c)/\0<=ZC.From a/\(0<=ZC.To a/\ZC.To a<=((Zk.Yz c).length:Int)-2)/\ZC.To a≠ZC.From a)\/
 (¬(ZC.Kind a=4\/ZC.Kind a=5)/\Zcs (ZC.Delay a) true/\Zcs (ZC.Za2 a) true/\ZC.To a=((Zk.Yz c).length:Int)-1/\(0<=ZC.From a/\ZC.From a<=((Zk.Yz c).length:Int)-2)/\
  ((ZC.Kind a=1/\Zni (Zk.Yz c) (ZC.From a)=false/\(1<=ZC.Za7 a/\ZC.Za7 a<=3))\/((ZC.Kind a=2\/ZC.Kind a=3)/\Zni (Zk.Yz c) (ZC.From a)=true/\ZC.Za7 a=0)))
theorem Zll (k:Int):Zd0 k=some (tr (k=4\/k=5)):=by
 unfold Zd0;split
 ·rename_i h;rw[Yf (.inl h)]
 ·rename_i h
  exact Zaf (by grind)
theorem Znp (c:Zk) (a:ZC) (hp:sm (.sl ZfZ) (Zk.Yz c)) (hd:sm (.sl XF) (ZC.Delay a)) (hw:sm (.sl XF) (ZC.Za2 a)):Zbl c a=some (tr (Zsk c a)):=by
 unfold Zbl;have hdl:=Zfx hd;have hsl:=Zfx hw;rw[Zll,Bq];by_cases hk:ZC.Kind a=4\/ZC.Kind a=5
 ·rw[if_pos (Yf hk)]
  refine ZcH (Xc (λ_=>Xc (λ_=>Yw (ZbS _ _ hdl) (λ_=>?_)))) (P:=ZC.Za7 a=0/\((ZC.Za2 a).length:Int)=0/\Zcs (ZC.Delay a) false/\(ZC.From a=ZhN (Zk.Yz c)/\0<=ZC.From a/\(0<=ZC.To a/\ZC.To a<=((Zk.Yz c).length:Int)-2)/\ZC.To a≠ZC.From a)) ?_
  ·rw[ZiL c hp,Bq]
   refine Xc (λ_=>Xc (λ_=>Yw (ZcM c _ hp) (λ_=>Zaf ?_)));grind
  ·unfold Zsk
   grind
 ·rw[if_neg (by rw[ZF hk];simp)]
  refine ZcH (Yw (ZbS _ _ hdl) (λ_=>Yw (ZbS _ _ hsl) (λ_=>?_))) (P:=Zcs (ZC.Delay a) true/\Zcs (ZC.Za2 a) true/\(ZC.To a=((Zk.Yz c).length:Int)-1/\(0<=ZC.From a/\ZC.From a<=((Zk.Yz c).length:Int)-2)/\
   ((ZC.Kind a=1/\Zni (Zk.Yz c) (ZC.From a)=false/\(1<=ZC.Za7 a/\ZC.Za7 a<=3))\/((ZC.Kind a=2\/ZC.Kind a=3)/\Zni (Zk.Yz c) (ZC.From a)=true/\ZC.Za7 a=0)))) ?_
  ·rw[ZaI c hp,Bq]
   refine Xc (λ_=>Yw (ZcM c _ hp) (λhF=>?_));obtain ⟨p,hp1,hp2⟩:=ZrS (l:=Zk.Yz c) hF.1 (by omega);rw[hp1,hp2];simp only[Bq];by_cases k1:ZC.Kind a=1
   ·simp only[k1,if_true]
    refine ZcH (Zdj (λ_=>ZbP (XB _ _ _))) ?_;grind
   by_cases k2:ZC.Kind a=2
   ·simp only[k2,if_true,Int.reduceEq,if_false]
    refine ZcH (Xc (λ_=>Zaf (decide_eq_true_iff))) ?_;grind
   by_cases k3:ZC.Kind a=3
   ·simp only[k3,if_true,Int.reduceEq,if_false]
    refine ZcH (Xc (λ_=>Zaf (decide_eq_true_iff))) ?_;grind
   ·simp only[k1,k2,k3,if_false]
    refine Zm2 ?_;grind
  ·unfold Zsk
   grind
def ZdJ (o a:ZC):Prop:=ZC.Kind o=ZC.Kind a/\ZC.From o=ZC.From a/\ZC.To o=ZC.To a
def Apart (l:List ZC) (k:Nat) (a:ZC):Prop:=∀ (j:Nat) (o:ZC),j<k->l[j]?=some o->¬ZdJ o a
structure ZmL (c:Zk):Prop where
 name:(Zk.Name c).length<=4611686018427387904
 pins:sm (.sl ZfZ) (Zk.Yz c)
 arcs:sm (.sl Zgv) (Zk.JR c)
 truth:sm (.sl (.int .i64)) (Zk.Truth c)
theorem ZtC {c:Zk} (h:sm V6 c):ZmL c:=⟨ZdL h.1,h.2.2.1,h.2.2.2.1,h.2.2.2.2.1⟩
theorem ZuX {a:ZC} (h:sm Zgv a):sm (.sl XF) (ZC.Delay a)/\sm (.sl XF) (ZC.Za2 a):=⟨h.2.2.2.2.1,h.2.2.2.2.2.1⟩
theorem ZiM (o a:ZC):XC o a=some (tr (ZdJ o a)):=by
 unfold XC ZdJ;exact Xc (λ_=>Xc (λ_=>Zaf decide_eq_true_iff))
theorem Zlj (c:Zk) (h:ZmL c):JY c=some (tr ((Zk.JR c).length<=8/\ZdM (Zk.JR c) (λk a=>Zsk c a/\Apart (Zk.JR c) k a))):=by
 unfold JY;have hs:=Zv h.arcs;rw[Qe (Yt h.arcs) (λk a=>Zsk c a/\Apart (Zk.JR c) k a) (bad:=false) (good:=decide ((Zk.JR c).length<=8))
  (λk a hx hk _=>by
   obtain ⟨h1,h2⟩:=ZuX (ZeM h.arcs hx);simp only[VE,show (k:Int)<((Zk.JR c).length:Int) from by omega,if_true,Zu,hx,Bq,Znp c a h.pins h1 h2];by_cases hA:Zsk c a
   ·rw[if_pos (Yf hA),Zd (by omega),Zd (by omega)]
    simp only[Int.toNat_natCast,Int.toNat_zero,List.drop_zero,Nat.sub_zero];rw[Xo (by show ((Zk.JR c).take k).length<=4611686018427387904;grind) (λo=>tr (ZdJ o a)) (λo _=>ZiM o a),Bq];have e:((Zk.JR c).take k).any (λo=>tr (ZdJ o a))=true<->¬Apart (Zk.JR c) k a:=by
     rw[List.any_eq_true];constructor
     ·rintro ⟨o,ho,hs⟩ hap
      obtain ⟨j,hj⟩:=List.mem_iff_getElem?.1 ho;rw[List.getElem?_take] at hj;split at hj
      ·rename_i hjk;exact hap j o hjk hj ((QM _).1 hs)
      ·cases hj
     ·intro hn
      apply Classical.byContradiction;intro hno;refine hn (λj o hj ho hs=>hno ⟨o,?_,Yf hs⟩);exact List.mem_iff_getElem?.2 ⟨j,by grind⟩
    grind
   ·rw[if_neg (by rw[ZF hA];simp)]
    grind)
  (λ_=>by
   simp only[VE,Int.lt_irrefl,if_false];congr 2;grind)]
 congr 1;refine ZbQ ?_;rw[QM];by_cases hA:ZdM (Zk.JR c) (λk a=>Zsk c a/\Apart (Zk.JR c) k a)
 ·rw[YS hA,decide_eq_true_eq];grind
 ·rw[YC hA];grind
def ZnW (c:Zk) (k:Int):Prop:=∃ a∈Zk.JR c,ZC.Kind a=k
theorem ZbU (c:Zk) (k:Int) (h:ZmL c):Qp c k=some (tr (ZnW c k)):=by
 unfold Qp;rw[XG (Yt h.arcs) (λa=>decide (ZC.Kind a=k)) (λa _=>rfl),Bq];refine Zaf ?_;rw[List.any_eq_true];simp only[decide_eq_true_eq,ZnW]
def ZdP (c:Zk):Prop :=
 (Zk.Kind c=1/\Zkz (Zk.Yz c)=0/\(Zk.Truth c).length=2 ^ ((Zk.Yz c).length-1)/\Zf0 (Zk.Truth c) 0 1)\/
 (Zk.Kind c=2/\Zkz (Zk.Yz c)=1/\(Zk.Truth c).length=0/\¬ZnW c 1/\(ZnW c 2<->¬ZnW c 3))\/
 (Zk.Kind c=3/\Zkz (Zk.Yz c)=1/\(Zk.Truth c).length=0/\ZnW c 1/\ZnW c 2/\¬ZnW c 3)
theorem ZrW {n:Nat} (h:n<=4):(2:Nat) ^ n<=16:=by
 calc (2:Nat) ^ n<=2 ^ 4:=Nat.pow_le_pow_right (by omega) h
  _=16:=rfl
theorem ZuA {m:Nat} (h:m<=4):Wq ((1:Int)*(2:Int) ^ min m (IntKind.bits IntKind.i64))=((2 ^ m:Nat):Int):=by
 have hb:min m (IntKind.bits IntKind.i64)=m:=Nat.min_eq_left (by show m<=64;omega);have e:(1:Int)*(2:Int) ^ m=((2 ^ m:Nat):Int):=by simp
 rw[hb,e];have h16:=ZrW h;clear hb e;generalize 2 ^ m=g at h16 ⊢;rw[Zar (by omega) (by omega)]
theorem Zko (c:Zk) (h:ZmL c) (hp:Zhp (Zk.Yz c)):Jg c=some (tr (ZdP c)):=by
 unfold Jg;have h2:=hp.1;have h5:=hp.2.1;refine (show Zq (λv=>Xk c v.1 v.2.1) ((0:Int),(0:Int),())=_ from JF (l:=Zk.Yz c) (ρ:=Bool) (λk=>((((Zk.Yz c).take k).countP (λp=>Yv.Clock p):Int),(k:Int),())) (step:=λv=>Xk c v.1 v.2.1)
  (λk p hx hk=>by
   have hcnt:((Zk.Yz c).take k).countP (λp=>Yv.Clock p)<=5:=by
    have h1:=List.countP_le_length (p:=λp=>Yv.Clock p) (l:=(Zk.Yz c).take k);grind
   have hnext:((Zk.Yz c).take (k+1)).countP (λp=>Yv.Clock p)=((Zk.Yz c).take k).countP (λp=>Yv.Clock p)+if Yv.Clock p=true then 1 else 0:=by
    rw[Yy hx,List.countP_append];grind
   simp only[Xk,show (k:Int)<((Zk.Yz c).length:Int) from by omega,if_true,Zu,hx,Bq,hnext];by_cases hc:Yv.Clock p=true
   ·rw[if_pos hc,if_pos hc,Jb (by omega),Jb (by omega)]
   ·rw[if_neg hc,if_neg hc,Jb (by omega)];rfl)
  ?_)
 have hout:=ZaI c h.pins;simp only[Xk,Int.lt_irrefl,if_false,List.take_length,hout,Bq,show (((Zk.Yz c).length:Int)-1).toNat=(Zk.Yz c).length-1 from by omega,ZuA (show (Zk.Yz c).length-1<=4 by omega)];have e00:((Zk.Yz c).countP (λp=>Yv.Clock p):Int)=0<->Zkz (Zk.Yz c)=0:=by unfold Zkz;omega
 have e01:((Zk.Yz c).countP (λp=>Yv.Clock p):Int)=1<->Zkz (Zk.Yz c)=1:=by unfold Zkz;omega
 unfold ZdP;by_cases k1:Zk.Kind c=1
 ·simp only[k1,if_true]
  by_cases hc:Zkz (Zk.Yz c)=0
  ·rw[if_pos (e00.2 hc),Zd (by omega)]
   by_cases ht:(Zk.Truth c).length=2 ^ ((Zk.Yz c).length-1)
   ·rw[if_pos (by rw[ht]),J4 _ _ _ (Yt h.truth),Bq]
    congr 2;refine (ZkJ ?_).symm;rw[Ziy];grind
   ·rw[if_neg (by omega),ZF (by grind)]
  ·rw[if_neg (λhh=>hc (e00.1 hh)),ZF (by grind)]
 by_cases k2:Zk.Kind c=2
 ·simp only[k2,if_true,Int.reduceEq,if_false]
  by_cases hc:Zkz (Zk.Yz c)=1
  ·rw[if_pos (e01.2 hc)]
   by_cases ht:(Zk.Truth c).length=0
   ·rw[if_pos (by omega),ZbU c 1 h,Bq]
    by_cases h1:ZnW c 1
    ·rw[if_pos (Yf h1),ZF (by grind)]
    ·rw[if_neg (by rw[ZF h1];simp),ZbU c 2 h,ZbU c 3 h]
     simp only[Bq];congr 2;refine (ZkJ ?_).symm;by_cases a:ZnW c 2<;>by_cases b:ZnW c 3<;>simp only[Yf,ZF,a,b,not_false_eq_true]<;>grind
   ·rw[if_neg (by omega),ZF (by grind)]
  ·rw[if_neg (λhh=>hc (e01.1 hh)),ZF (by grind)]
 by_cases k3:Zk.Kind c=3
 ·simp only[k3,if_true,Int.reduceEq,if_false]
  by_cases hc:Zkz (Zk.Yz c)=1
  ·rw[if_pos (e01.2 hc)]
   by_cases ht:(Zk.Truth c).length=0
   ·rw[if_pos (by omega),ZbU c 1 h,Bq]
    by_cases h1:ZnW c 1
    ·rw[if_pos (Yf h1),ZbU c 2 h,Bq]
     by_cases h2:ZnW c 2
     ·rw[if_pos (Yf h2),ZbU c 3 h,Bq]
      congr 2;refine (ZkJ ?_).symm;rw[Bool.not_eq_true',<-Bool.not_eq_true,QM];grind
     ·rw[if_neg (by rw[ZF h2];simp),ZF (by grind)]
    ·rw[if_neg (by rw[ZF h1];simp),ZF (by grind)]
   ·rw[if_neg (by omega),ZF (by grind)]
  ·rw[if_neg (λhh=>hc (e01.1 hh)),ZF (by grind)]
 ·simp only[k1,k2,k3,if_false]
  rw[ZF (by grind)]
def Zux (c:Zk):Prop:=QL (Zk.Name c)=true/\Zhp (Zk.Yz c)/\((Zk.JR c).length<=8/\ZdM (Zk.JR c) (λk a=>Zsk c a/\Apart (Zk.JR c) k a))/\(0<=Zk.Zsl c/\Zk.Zsl c<=100000)/\(0<=Zk.Zhn c/\Zk.Zhn c<=100000)/\ZdP c
def Zit (c:Zk):Prop:=QL (Zk.Name c)=true/\Zhp (Zk.Yz c)/\((Zk.JR c).length<=8/\ZdM (Zk.JR c) (λk a=>Zjn c a/\Apart (Zk.JR c) k a))/\(0<=Zk.Zsl c/\Zk.Zsl c<=100000)/\(0<=Zk.Zhn c/\Zk.Zhn c<=100000)/\ZdP c
theorem ZsY {l:List Yv} {i j:Nat} {p q:Yv} (hij:i<j) (hp:l[i]?=some p) (hq:l[j]?=some q) (cp:Yv.Clock p=true) (cq:Yv.Clock q=true):2<=Zkz l:=by
 unfold Zkz;have e:l.countP (λp=>Yv.Clock p)=(l.take j).countP (λp=>Yv.Clock p)+(l.drop j).countP (λp=>Yv.Clock p):=by rw[<-List.countP_append,List.take_append_drop]
 have h1:0<(l.take j).countP (λp=>Yv.Clock p):=List.countP_pos_iff.2 ⟨p,List.mem_iff_getElem?.2 ⟨i,by grind⟩,cp⟩;have h2:0<(l.drop j).countP (λp=>Yv.Clock p):=List.countP_pos_iff.2 ⟨q,List.mem_iff_getElem?.2 ⟨0,by grind⟩,cq⟩;omega
theorem ZmQ {l:List Yv} (h:Zkz l<=1) {i:Int} (h0:0<=i):Zni l i=true<->i=ZhN l:=by
 unfold ZhN Zdq Zni;constructor
 ·intro hc
  split at hc
  ·rename_i p hp
   split
   ·rename_i j hj
    obtain ⟨hj1,hj2,hj3⟩:=List.findIdx?_eq_some_iff_getElem.1 hj;have hjg:l[j]?=some l[j]:=List.getElem?_eq_getElem hj1;rcases Nat.lt_trichotomy i.toNat j with hlt | heq | hlt
    ·grind
    ·omega
    ·have:=ZsY hlt hjg hp hj2 hc;omega
   grind
  ·cases hc
 ·intro hi
  split at hi
  ·rename_i j hj
   obtain ⟨hj1,hj2,hj3⟩:=List.findIdx?_eq_some_iff_getElem.1 hj;grind
  ·omega
theorem Zqj {l:List Yv} (h:Zhp l):Zni l ((l.length:Int)-1)=false:=by
 have h2:=h.1;have hp:l[l.length-1]?=some l[l.length-1]:=List.getElem?_eq_getElem (by omega);have:=((h.2.2.2 _ _ hp).2.1 (by omega)).2.2;unfold Zni;rw[show ((l.length:Int)-1).toNat=l.length-1 by omega,hp];exact this
theorem ZqY {c:Zk} (hp:Zhp (Zk.Yz c)) (hk:Zkz (Zk.Yz c)<=1) (a:ZC):Zsk c a<->Zjn c a:=by
 have h2:=hp.1;have hF:0<=ZC.From a->(Zni (Zk.Yz c) (ZC.From a)=true<->ZC.From a=ZhN (Zk.Yz c)):=λh=>ZmQ hk h;have hT:0<=ZC.To a->(Zni (Zk.Yz c) (ZC.To a)=true<->ZC.To a=ZhN (Zk.Yz c)):=λh=>ZmQ hk h;have hlast:=Zqj hp;have hfr:∀ i,Zni (Zk.Yz c) i=true->i<((Zk.Yz c).length:Int):=by
  intro i hi;unfold Zni at hi;grind
 unfold Zsk Zjn;grind
theorem ZdP.Zkz {c:Zk} (h:ZdP c):Zkz (Zk.Yz c)<=1:=by
 rcases h with h | h | h
 all_goals grind
theorem Zsr (c:Zk):Zux c<->Zit c:=by
 unfold Zux Zit;constructor
 ·rintro ⟨a,b,⟨c1,d⟩,e,f,g⟩
  exact ⟨a,b,⟨c1,λk x hx=>⟨(ZqY b g.Zkz x).1 (d k x hx).1,(d k x hx).2⟩⟩,e,f,g⟩
 ·rintro ⟨a,b,⟨c1,d⟩,e,f,g⟩
  exact ⟨a,b,⟨c1,λk x hx=>⟨(ZqY b g.Zkz x).2 (d k x hx).1,(d k x hx).2⟩⟩,e,f,g⟩
theorem Zmj (c:Zk) (h:sm V6 c):Ze0 c=some (tr (Zit c)):=by
 have hc:=ZtC h;unfold Ze0;refine ZcH (Yw (by rw[Zet];exact Zaf Iff.rfl) (λ_=>Yw (Zlk _ hc.pins) (λhp=>Yw (Zlj c hc) (λ_=>Yw (XB _ _ _) (λ_=>Yw (XB _ _ _) (λ_=>ZbP (Zko c hc hp))))))) ?_;exact (Zsr c)
def ZcJ (l:List ZC):List Int:=(List.range 6).map (λ(j:Nat)=>((l.countP (λa=>decide (ZC.Kind a=(j:Int))):Nat):Int))
theorem ZaM (l:List ZC) {j:Nat} (h:j<6):(ZcJ l)[j]?=some ((l.countP (λa=>decide (ZC.Kind a=(j:Int))):Nat):Int):=by
 simp[ZcJ,List.getElem?_range h]
theorem ZkF (c:Zk) (h:ZmL c) (hk:∀ a∈Zk.JR c,1<=ZC.Kind a/\ZC.Kind a<=5):Zc6 c=some (ZcJ (Zk.JR c)):=by
 unfold Zc6;have hs:=Zv h.arcs;have h0:List.replicate (Int.toNat (6:Int)) (0:Int)=ZcJ ((Zk.JR c).take 0):=by simp[ZcJ];decide
 rw[h0];refine JF (l:=Zk.JR c) (ρ:=List Int) (λk=>((k:Int),ZcJ ((Zk.JR c).take k),())) (step:=λv=>VO c v.1 v.2.1)
  (λk a hx hlt=>?_) (by simp only[VO,Int.lt_irrefl,if_false,List.take_length])
 obtain ⟨k1,k5⟩:=hk a (List.mem_of_getElem? hx);have hkn:ZC.Kind a=(((ZC.Kind a).toNat:Nat):Int):=by omega
 have hcnt:∀ j:Nat,((Zk.JR c).take k).countP (λa=>decide (ZC.Kind a=(j:Int)))<=1048576:=by
  intro j;have h1:=List.countP_le_length (p:=λa=>decide (ZC.Kind a=(j:Int))) (l:=(Zk.JR c).take k);grind
 simp only[VO,show (k:Int)<((Zk.JR c).length:Int) from by omega,if_true,Zu,hx,Bq];rw[Zbc (by omega) (ZaM _ (show (ZC.Kind a).toNat<6 by omega)),Bq,Jb (hcnt _),Jb (by omega)];congr 3;rw[Prod.mk.injEq];refine ⟨?_,rfl⟩;apply List.ext_getElem?;intro j;by_cases hj:(ZC.Kind a).toNat=j
 ·subst hj
  rw[List.getElem?_set_self (by simp[ZcJ];omega),ZaM _ (by omega),Yy hx,List.countP_append];grind
 ·rw[List.getElem?_set_ne hj]
  by_cases h6:j<6
  ·rw[ZaM _ h6,ZaM _ h6,Yy hx,List.countP_append]
   grind
  ·rw[List.getElem?_eq_none (by simp[ZcJ];omega),List.getElem?_eq_none (by simp[ZcJ];omega)]
theorem Zk2 (c:Zk) (j:Nat):0<(Zk.JR c).countP (λa=>decide (ZC.Kind a=(j:Int)))<->ZnW c j:=by
 rw[List.countP_pos_iff];simp only[decide_eq_true_eq,ZnW]
theorem ZjY (c:Zk) (h:ZmL c) (hp:Zhp (Zk.Yz c)) (hk1:Zk.Kind c=1) :
  Zq (λv=>Zaa c ((Zkz (Zk.Yz c):Int),true) v.1) ((0:Int),())=some (.inr (tr (ZdP c))):=by
 have h2:=hp.1;have h5:=hp.2.1;have hs:=Zv h.truth;have e1:Wq (((Zk.Yz c).length:Int)-1)=((Zk.Yz c).length:Int)-1:=Zar (by omega) (by omega);have e2:IntKind.u64.wrap (((Zk.Yz c).length:Int)-1)=((Zk.Yz c).length:Int)-1:=IntWalk.u64_in _ (by omega);rw[Qe (Yt h.truth) (λk x=>0<=x/\x<=1) (bad:=.inr false) (good:=.inr (tr (Zkz (Zk.Yz c)=0/\(Zk.Truth c).length=2 ^ ((Zk.Yz c).length-1))))
  (λk x hx hk _=>by
   simp only[Zaa,show (k:Int)<((Zk.Truth c).length:Int) from by omega,if_true,Zu,hx,Bq,Q9,Y7];grind)
  (λ_=>by
   simp only[Zaa,Int.lt_irrefl,if_false,e1,e2];by_cases hc:Zkz (Zk.Yz c)=0
   ·rw[if_pos (by omega),Zd (by omega),show (((Zk.Yz c).length:Int)-1).toNat=(Zk.Yz c).length-1 by omega,ZuA (by omega)]
    congr 2;congr 1;refine (ZkJ ?_).symm;grind
   ·rw[if_neg (by omega),ZF (λhh=>hc hh.1)])]
 congr 1;by_cases hA:ZdM (Zk.Truth c) (λk x=>0<=x/\x<=1)
 ·rw[YS hA]
  congr 1;refine XJ ?_;have hAll:Zf0 (Zk.Truth c) 0 1:=λx hx=>by
   obtain ⟨k,hk⟩:=List.mem_iff_getElem?.1 hx;exact hA k x hk
  unfold ZdP;grind
 ·rw[YC hA,ZF]
  intro hh;rcases hh with hh | hh | hh
  ·exact hA (λk x hk=>hh.2.2.2 x (List.mem_of_getElem? hk))
  all_goals grind
theorem ZmF (c:Zk) (hsm:sm V6 c):Zfs c=some (tr (Zit c)):=by
 have h:=ZtC hsm;have hs:=Zv h.arcs;unfold Zfs;rw[Zl8 c h.pins,Bq];by_cases hp':¬Zhp (Zk.Yz c)
 ·rw[YC hp',ZF (λhh=>hp' hh.2.1)];rfl
 have hp:=Classical.not_not.1 hp';rw[YS hp];simp only[if_true];refine ZcH (Yw (P:=QL (Zk.Name c)=true) (by rw[JJ _ h.name];exact Zaf Iff.rfl) (λhn=>Zdj (λh8=>Yw (Qr _ _ _) (λhl=>Yw (Qr _ _ _) (λhe=>?_))))) (P:=QL (Zk.Name c)=true/\¬((8:Int)<((Zk.JR c).length:Int))/\(0<=Zk.Zsl c/\Zk.Zsl c<=100000)/\(0<=Zk.Zhn c/\Zk.Zhn c<=100000)/\(ZdM (Zk.JR c) (λk a=>Zjn c a/\Apart (Zk.JR c) k a)/\ZdP c)) ?_
 ·rw[Qe (Yt h.arcs) (λk a=>Zjn c a/\Apart (Zk.JR c) k a) (bad:=false) (good:=tr (ZdP c))
   (λk a hx hk _=>by
    obtain ⟨h1,h2⟩:=ZuX (ZeM h.arcs hx);simp only[Zb2,show (k:Int)<((Zk.JR c).length:Int) from by omega,if_true,Zu,hx,Bq,ZmH c a h.pins h1 h2 hp.1];have inner:Zq (λv=>J9 c (k:Int) a v.1) ((0:Int),())=some (sel (∀ j,j<k->∀ o,(Zk.JR c)[j]?=some o->¬ZdJ o a) (.inl (Wq ((k:Int)+1),())) (.inr false)):=by
     refine ZlO k (by omega) (λj=>∀ o,(Zk.JR c)[j]?=some o->¬ZdJ o a) (λj hj=>?_) (λ_=>by simp only[J9,Int.lt_irrefl,if_false]);obtain ⟨o,ho⟩:∃ o,(Zk.JR c)[j]?=some o:=⟨_,List.getElem?_eq_getElem (by omega)⟩;simp only[J9,show (j:Int)<(k:Int) from by omega,if_true,Zu,ho,Bq];have e:(∀ o',some o=some o'->¬ZdJ o' a)<->¬ZdJ o a:=⟨λhh=>hh o rfl,λhh o' ho'=>by grind⟩;rw[e];unfold ZdJ;grind
    have eap:Apart (Zk.JR c) k a<->(∀ j,j<k->∀ o,(Zk.JR c)[j]?=some o->¬ZdJ o a):=⟨λhh j hj o ho=>hh j o hj ho,λhh j o hj ho=>hh j hj o ho⟩;by_cases hA:Zjn c a
    ·rw[if_pos (Yf hA),inner]
     constructor
     ·intro hh;rw[YS (eap.1 hh.2)]
     ·intro hh;rw[YC (λh'=>hh ⟨hA,eap.2 h'⟩)]
    ·rw[if_neg (by rw[ZF hA];simp)]
     grind)
   (λhA=>by
    have hkinds:=ZkF c h (λa ha=>by
     obtain ⟨k,hk⟩:=List.mem_iff_getElem?.1 ha;exact (hA k a hk).1.kind)
    have g1:atI (ZcJ (Zk.JR c)) (1:Int)=some (((Zk.JR c).countP (λa=>decide (ZC.Kind a=((1:Nat):Int))):Nat):Int):=Zbc (by omega) (ZaM _ (by omega));have g2:atI (ZcJ (Zk.JR c)) (2:Int)=some (((Zk.JR c).countP (λa=>decide (ZC.Kind a=((2:Nat):Int))):Nat):Int):=Zbc (by omega) (ZaM _ (by omega));have g3:atI (ZcJ (Zk.JR c)) (3:Int)=some (((Zk.JR c).countP (λa=>decide (ZC.Kind a=((3:Nat):Int))):Nat):Int):=Zbc (by omega) (ZaM _ (by omega));have c1:=Zk2 c 1;have c2:=Zk2 c 2;have c3:=Zk2 c 3;simp only[Zb2,Int.lt_irrefl,if_false,hkinds,Bq,g1,g2,g3];generalize (Zk.JR c).countP (λa=>decide (ZC.Kind a=((1:Nat):Int)))=n1 at c1 ⊢;generalize (Zk.JR c).countP (λa=>decide (ZC.Kind a=((2:Nat):Int)))=n2 at c2 ⊢;generalize (Zk.JR c).countP (λa=>decide (ZC.Kind a=((3:Nat):Int)))=n3 at c3 ⊢;by_cases k1:Zk.Kind c=1
    ·rw[if_pos k1]
     exact ZjY c h hp k1
    rw[if_neg k1];have hgoal:∀ (b:Bool),(b=true<->ZdP c)->(some (.inr b):Option ((Int×Unit) ⊕ Bool))=some (.inr (tr (ZdP c))):=λb hb=>by rw[ZkJ hb]
    have c1':ZnW c 1<->0<n1:=c1.symm;have c2':ZnW c 2<->0<n2:=c2.symm;have c3':ZnW c 3<->0<n3:=c3.symm;have hKO:ZdP c<->(Zk.Kind c=2/\Zkz (Zk.Yz c)=1/\(Zk.Truth c).length=0/\¬0<n1/\(0<n2<->¬0<n3))\/(Zk.Kind c=3/\Zkz (Zk.Yz c)=1/\(Zk.Truth c).length=0/\0<n1/\0<n2/\¬0<n3):=by
     unfold ZdP
     simp_all
    grind)]
  congr 1;by_cases hA:ZdM (Zk.JR c) (λk a=>Zjn c a/\Apart (Zk.JR c) k a)
  ·rw[YS hA];grind
  ·rw[YC hA,ZF (λx=>hA x.1)]
 ·unfold Zit
  grind
theorem ZpT {α:Type} {l:List α} {k:Nat} {s:α}:s ∉ l.take k<->∀ (j:Nat) (q:α),j<k->l[j]?=some q->q≠s:=by
 constructor
 ·intro h j q hj hq e
  refine h (List.mem_iff_getElem?.2 ⟨j,?_⟩);grind
 ·intro h hm
  obtain ⟨j,hj⟩:=List.mem_iff_getElem?.1 hm;grind
theorem ZlP {α:Type} (f:α->List UInt8) (l:List α):X6 (l.map f) l.length<->ZdM l (λk x=>QL (f x)=true/\∀ (j:Nat) (q:α),j<k->l[j]?=some q->f q≠f x):=by
 constructor
 ·intro h k x hx
  have hk:=(List.getElem?_eq_some_iff.1 hx).1;obtain ⟨h1,h2⟩:=h k (f x) hk (by simp[hx]);refine ⟨h1,λj q hj hq=>ZpT.1 h2 j (f q) hj (by simp[hq])⟩
 ·intro h j s hj hs
  simp only[List.getElem?_map,Option.map_eq_some_iff] at hs;obtain ⟨x,hx,rfl⟩:=hs;obtain ⟨h1,h2⟩:=h j x hx;refine ⟨h1,ZpT.2 (λi q hi hq=>?_)⟩;grind
def ZfL (l:List Zk):List (List UInt8):=l.map Zk.Name
def ZoG (a:Zt):Prop:=(Zt.Cells a).length<=8/\(∀ c∈Zt.Cells a,Zit c)/\X6 (ZfL (Zt.Cells a)) (Zt.Cells a).length
theorem Ztf {a:Zt} (h:sm YR a):sm (.sl V6) (Zt.Cells a):=h.1
theorem QW {α:Type} {l:List α} {P:α->Prop}:ZdM l (λ_ x=>P x)<->∀ x∈l,P x:=by
 constructor
 ·intro h x hx
  obtain ⟨k,hk⟩:=List.mem_iff_getElem?.1 hx;exact h k x hk
 ·intro h k x hk
  grind
theorem ZbA {P Q:Prop}:sel P (tr Q) false=tr (P/\Q):=by
 by_cases h:P
 ·rw[YS h];grind
 ·rw[YC h,ZF (λq=>h q.1)]
theorem Zjv (a:Zt) (h:sm YR a):Zcc a=some (tr (ZoG a)):=by
 have hc:=Ztf h;have hs:=Zv hc;unfold Zcc;have:=Zfh (l:=Zt.Cells a) (ρ:=Bool) (λk=>((ZfL (Zt.Cells a)).take k,(k:Int),())) (λ_ c=>Zit c) (step:=λv=>Qi a v.1 v.2.1) (bad:=false) (good:=tr ((Zt.Cells a).length<=8/\X6 (ZfL (Zt.Cells a)) (Zt.Cells a).length))
  (λk c hx hk _=>by
   have hn:(ZfL (Zt.Cells a))[k]?=some (Zk.Name c):=by simp[ZfL,hx]
   simp only[Qi,show (k:Int)<((Zt.Cells a).length:Int) from by omega,if_true,Zu,hx,Bq,Zmj c (ZeM hc hx)];rw[Zd (by grind),Yy hn,Jb (by omega)];constructor
   ·intro hh;rw[if_pos (Yf hh)]
   ·intro hh;rw[if_neg (by rw[ZF hh];simp)])
  (λhA=>by
   have e0:(ZfL (Zt.Cells a)).take (Zt.Cells a).length=ZfL (Zt.Cells a):=by rw[show (Zt.Cells a).length=(ZfL (Zt.Cells a)).length by simp[ZfL],List.take_length]
   have hlen:(ZfL (Zt.Cells a)).length=(Zt.Cells a).length:=by simp[ZfL]
   simp only[Qi,Int.lt_irrefl,if_false,e0];by_cases h8:(Zt.Cells a).length<=8
   ·rw[if_pos (by omega),Qd _ (by rw[hlen];omega),Bq,hlen]
    grind
   ·rw[if_neg (by omega),ZF (λq=>h8 q.1)])
 refine (show Zq (λv=>Qi a v.1 v.2.1) (([]:List (List UInt8)),(0:Int),())=_ from this).trans ?_;rw[ZbA];congr 1;refine XJ ?_;rw[QW];exact ⟨λq=>⟨q.2.1,q.1,q.2.2⟩,λq=>⟨q.2.1,q.1,q.2.2⟩⟩
theorem Zh1 {α ρ:Type} {f:α->List UInt8} {l:List α} {x:α} {k:Nat} (hk:k<=1048576) (hkl:k<=l.length) {step:Int×Unit->Option ((Int×Unit) ⊕ ρ)} {bad good:ρ}
  (hs:∀ (j:Nat) (y:α),j<k->l[j]?=some y->step ((j:Int),())=some (if f y=f x then .inr bad else .inl (Wq ((j:Int)+1),())))
  (hx:step ((k:Int),())=some (.inr good)):Zq step ((0:Int),())=some (sel (∀ (j:Nat) (q:α),j<k->l[j]?=some q->f q≠f x) good bad):=by
 rw[ZlO k (by omega) (λj=>∀ q,l[j]?=some q->f q≠f x) (bad:=bad) (good:=good) (λj hj=>by
  grind) (λ_=>hx)]
 congr 1;have e:(∀ j,j<k->∀ q,l[j]?=some q->f q≠f x)<->(∀ (j:Nat) (q:α),j<k->l[j]?=some q->f q≠f x):=⟨λh j q hj hq=>h j hj q hq,λh j hj q hq=>h j q hj hq⟩;rw[propext e]
theorem ZjZ (a:Zt) (h:sm YR a):Zco a=some (tr (ZoG a)):=by
 have hc:=Ztf h;have hs:=Zv hc;unfold Zco;rw[Qe (Yt hc) (λk c=>Zit c/\∀ (j:Nat) (q:Zk),j<k->(Zt.Cells a)[j]?=some q->Zk.Name q≠Zk.Name c) (bad:=false) (good:=tr ((Zt.Cells a).length<=8))
  (λk c hx hk _=>by
   simp only[Zal,show (k:Int)<((Zt.Cells a).length:Int) from by omega,if_true,Zu,hx,Bq,ZmF c (ZeM hc hx)];by_cases hC:Zit c
   ·rw[if_pos (Yf hC),Zh1 (f:=Zk.Name) (l:=Zt.Cells a) (x:=c) (k:=k) (by omega) (by omega) (bad:=.inr false) (good:=.inl (Wq ((k:Int)+1),()))
     (λj y hj hy=>by
      simp only[Zak,show (j:Int)<(k:Int) from by omega,if_true,Zu,hy,Bq];split<;>rfl)
     (by simp only[Zak,Int.lt_irrefl,if_false])]
    constructor
    ·intro hh;rw[YS hh.2]
    ·intro hh;rw[YC (λq=>hh ⟨hC,q⟩)]
   ·rw[if_neg (by rw[ZF hC];simp)]
    grind)
  (λ_=>by
   simp only[Zal,Int.lt_irrefl,if_false];congr 2;exact (ZkJ (by grind)).symm)]
 rw[ZbA];congr 1;refine XJ ?_;unfold ZoG;rw[ZfL,ZlP,<-QW];constructor
 ·rintro ⟨q,q8⟩
  exact ⟨q8,λk x hx=>(q k x hx).1,λk x hx=>⟨(q k x hx).1.1,(q k x hx).2⟩⟩
 ·rintro ⟨q8,q1,q2⟩
  exact ⟨λk x hx=>⟨q1 k x hx,(q2 k x hx).2⟩,q8⟩
theorem ZcK (l:List (List UInt8)) (hl:l.length<=1048576) (hsm:∀ s∈l,s.length<=4611686018427387904):Zab l=some (tr (X6 l l.length)):=by
 unfold Zab;rw[Qe (show Len l by show l.length<=4611686018427387904;omega) (λk s=>QL s=true/\∀ (j:Nat) (q:List UInt8),j<k->l[j]?=some q->id q≠id s) (bad:=false) (good:=true)
  (λk s hx hk _=>by
   simp only[ZaW,show (k:Int)<(l.length:Int) from by omega,if_true,Zu,hx,Bq,JJ s (hsm s (List.mem_of_getElem? hx))];by_cases hC:QL s=true
   ·rw[if_pos hC,Zh1 (f:=id) (l:=l) (x:=s) (k:=k) (by omega) (by omega) (bad:=.inr false) (good:=.inl (Wq ((k:Int)+1),()))
     (λj y hj hy=>by
      simp only[ZaV,show (j:Int)<(k:Int) from by omega,if_true,Zu,hy,Bq,id];split<;>rfl)
     (by simp only[ZaV,Int.lt_irrefl,if_false])]
    constructor
    ·intro hh;rw[YS hh.2]
    ·intro hh;rw[YC (λq=>hh ⟨hC,q⟩)]
   grind)
  (λ_=>by simp only[ZaW,Int.lt_irrefl,if_false]),Zkg]
 congr 1;refine XJ ?_;have:=ZlP id l
 simp_all
def ZcP (d:Zg):List (List UInt8):=(Zg.Instances d).map Zl.Name
def ZaN (d:Zg):List (List UInt8):=(Zg.Xb d).map Ye.Name
def Ziv (d:Zg):Prop:=(Zg.Instances d).length<=14/\(Zg.X7 d).length<=30/\(Zg.Xb d).length<=8/\X6 (ZcP d) (ZcP d).length/\X6 (Zg.X7 d) (Zg.X7 d).length/\X6 (ZaN d) (ZaN d).length
theorem gather {α ρ:Type} {l:List α} (hl:l.length<=1048576) (f:α->List UInt8) {step:List (List UInt8)×Int×Unit->Option ((List (List UInt8)×Int×Unit) ⊕ ρ)} {good:ρ}
  (hs:∀ (k:Nat) (x:α) (o:List (List UInt8)),l[k]?=some x->(k:Int)<(l.length:Int)->o.length=k->step (o,(k:Int),())=Zp ((o.length+[f x].length)*16<=140737488355328) (some (.inl (o++[f x],Wq ((k:Int)+1),()))))
  (hx:step (l.map f,(l.length:Int),())=some (.inr good)):Zq step (([]:List (List UInt8)),(0:Int),())=some good:=by
 refine (show Zq step (([]:List (List UInt8)),(0:Int),())=some good from JF (l:=l) (λk=>((l.map f).take k,(k:Int),())) (λk x hx hk=>?_) ?_)
 ·have hn:(l.map f)[k]?=some (f x):=by simp[hx]
  have hlen:((l.map f).take k).length=k:=by grind
  rw[hs k x _ hx (by omega) hlen,Zd (by grind),Yy hn,Jb (by omega)]
 ·have e0:(l.map f).take l.length=l.map f:=by rw[show l.length=(l.map f).length by simp,List.take_length]
  grind
theorem Zjh {d:Zg} (h:sm YU d):sm (.sl YJ) (Zg.Instances d)/\sm (.sl ZcF) (Zg.Xb d)/\sm (.sl .str) (Zg.X7 d):=by
 refine ⟨?_,?_,?_⟩
 ·first | exact h.1 | exact h.2.1 | exact h.2.2.1 | exact h.2.2.2.1
 ·first | exact h.1 | exact h.2.1 | exact h.2.2.1 | exact h.2.2.2.1
 ·first | exact h.1 | exact h.2.1 | exact h.2.2.1 | exact h.2.2.2.1
theorem Zov {x:Zl} (h:sm YJ x):sm .str (Zl.Name x)/\sm (.sl (.int .i64)) (Zl.X7 x):=by
 refine ⟨?_,?_⟩
 ·first | exact h.1 | exact h.2.1 | exact h.2.2.1 | exact h.2.2.2.1
 ·first | exact h.1 | exact h.2.1 | exact h.2.2.1 | exact h.2.2.2.1
theorem ZuZ {x:Ye} (h:sm ZcF x):sm .str (Ye.Name x):=by
 first | exact h.1 | exact h.2.1 | exact h.2.2.1 | exact h.2.2.2.1
theorem ZeZ (d:Zg) (h:sm YU d):Vm d=some (tr (Ziv d)):=by
 obtain ⟨h1,h2,h3⟩:=Zjh h;have s1:=Zv h1;have s2:=Zv h2;have s3:=Zv h3;unfold Vm;refine gather (l:=Zg.Instances d) s1 Zl.Name (λk x o hx hk ho=>?_) ?_
 ·simp only[QV,hk,if_true,Zu,hx,Bq]
 simp only[QV,Int.lt_irrefl,if_false];have hi:(ZcP d).length=(Zg.Instances d).length:=by simp[ZcP]
 have hp:(ZaN d).length=(Zg.Xb d).length:=by simp[ZaN]
 refine gather (l:=Zg.Xb d) s2 Ye.Name (λk x o hx hk ho=>?_) ?_
 ·simp only[QU,hk,if_true,Zu,hx,Bq]
 simp only[QU,Int.lt_irrefl,if_false];rw[show List.map Ye.Name (Zg.Xb d)=ZaN d from rfl,show List.map Zl.Name (Zg.Instances d)=ZcP d from rfl];simp only[hi,hp,Qd _ (show (ZcP d).length<=4611686018427387904 by omega),Qd _ (show (ZaN d).length<=4611686018427387904 by omega),Qd _ (show (Zg.X7 d).length<=4611686018427387904 by omega),Bq];unfold Ziv;rw[hi,hp];by_cases a:(Zg.Instances d).length<=14
 ·rw[if_pos (by omega)]
  by_cases b:(Zg.X7 d).length<=30
  ·rw[if_pos (by omega)]
   by_cases c:(Zg.Xb d).length<=8
   ·rw[if_pos (by omega)]
    by_cases e:X6 (ZcP d) (Zg.Instances d).length
    ·rw[if_pos (Yf e)]
     by_cases f:X6 (Zg.X7 d) (Zg.X7 d).length
     ·rw[if_pos (Yf f)]
      grind
     ·rw[if_neg (by rw[ZF f];simp),ZF (λq=>f q.2.2.2.2.1)]
    ·rw[if_neg (by rw[ZF e];simp),ZF (λq=>e q.2.2.2.1)]
   ·rw[if_neg (by omega),ZF (λq=>c q.2.2.1)]
  ·rw[if_neg (by omega),ZF (λq=>b q.2.1)]
 ·rw[if_neg (by omega),ZF (λq=>a q.1)]
def ZkK (n:Nat) (s:List Int):List Int:=(List.range n).map (λ(j:Nat)=>((s.countP (λx=>decide (x=(j:Int))):Nat):Int))
theorem ZiC (n:Nat) (s:List Int):(ZkK n s).length=n:=by simp[ZkK]
theorem Znj (n:Nat):ZkK n []=List.replicate n 0:=by
 apply List.ext_getElem?;intro i;simp only[ZkK,List.countP_nil,List.getElem?_map,List.getElem?_replicate,List.getElem?_range];grind
theorem ZkL {n:Nat} {s:List Int} {j:Nat} (h:j<n):(ZkK n s)[j]?=some ((s.countP (λx=>decide (x=(j:Int))):Nat):Int):=by
 simp[ZkK,h]
theorem ZtQ {n:Nat} {s:List Int} {x:Int} (h0:0<=x) (h1:x<(n:Int)):atI (ZkK n s) x=some ((s.countP (λy=>decide (y=x)):Nat):Int):=by
 refine Zbc h0 ?_;rw[ZkL (by omega),show ((x.toNat:Nat):Int)=x by omega]
theorem Zst {n:Nat} {s:List Int} {x:Int} (h0:0<=x) (h1:x<(n:Int)):List.set (ZkK n s) (Int.toNat x) (((s.countP (λy=>decide (y=x)):Nat):Int)+1)=ZkK n (s++[x]):=by
 apply List.ext_getElem?;intro i;rw[List.getElem?_set];by_cases hi:i<n
 ·rw[ZkL hi,ZkL hi,List.countP_append,ZiC]
  grind
 ·have h1:(ZkK n s)[i]?=none:=by rw[List.getElem?_eq_none];rw[ZiC];omega
  have h2:(ZkK n (s++[x]))[i]?=none:=by rw[List.getElem?_eq_none];rw[ZiC];omega
  grind
theorem Zga {n:Nat} {s:List Int} {x:Int} (h0:0<=x) (h1:x<(n:Int)) (hs:s.length<=1048576000) {τ:Type} (F:List Int->Option τ) :
  ((atI (ZkK n s) x).bind λy=>F (List.set (ZkK n s) (Int.toNat x) (Wq (y+1))))=F (ZkK n (s++[x])):=by
 have h2:=List.countP_le_length (p:=λy=>decide (y=x)) (l:=s);rw[ZtQ h0 h1,Bq,Zar (by omega) (by omega),Zst h0 h1]
def ZbW (x:Zl):Int:=(Zl.X7 x).getLastD 0
def ZnY (d:Zg) (n:Int):Prop:=0<=n/\n<=((Zg.X7 d).length:Int)-1
def Zho (a:Zt) (d:Zg) (x:Zl):Prop :=
 (0<=Zl.Cell x/\Zl.Cell x<=((Zt.Cells a).length:Int)-1)/\(∃ c,(Zt.Cells a)[(Zl.Cell x).toNat]?=some c/\(Zl.X7 x).length=(Zk.Yz c).length)/\∀ n∈Zl.X7 x,ZnY d n
def Zhq (d:Zg) (p:Ye):Prop:=(1<=Ye.Dir p/\Ye.Dir p<=2)/\ZnY d (Ye.Net p)
def Zyv (d:Zg):List Int:=(Zg.Instances d).map ZbW++((Zg.Xb d).filter (λp=>decide (Ye.Dir p=1))).map Ye.Net
def Zix (d:Zg):Prop:=∀ x∈ZkK (Zg.X7 d).length (Zyv d),x=1
def Zba (a:Zt) (d:Zg):Prop:=ZoG a/\Ziv d/\(∀ x∈Zg.Instances d,Zho a d x)/\(∀ p∈Zg.Xb d,Zhq d p)/\Zix d
theorem Zho.last {a:Zt} {d:Zg} {x:Zl} (h:Zho a d x) (hl:ZoG a) (hsm:(Zl.X7 x).length<=1048576):atI (Zl.X7 x) (Wq (((Zl.X7 x).length:Int)-1))=some (ZbW x)/\ZnY d (ZbW x):=by
 obtain ⟨_,⟨c,hc,hn⟩,hall⟩:=h;have h2:2<=(Zk.Yz c).length:=(hl.2.1 c (List.mem_of_getElem? hc)).2.1.1;unfold ZbW;cases hN:Zl.X7 x with
 | nil=>grind
 | cons y r =>
  rw[hN] at hsm;rw[Zj5 hsm (by simp),Zu];grind
theorem ZcN (d:Zg) (n:Int) (h:sm YU d):XR d n=some (tr (ZnY d n)):=by
 have s3:=Zv (Zjh h).2.2;unfold XR;rw[show Zbo (Zg.X7 d)=some ((Zg.X7 d).length:Int) from rfl,Bq,Zar (by omega) (by omega)];exact ZbP (XB _ _ _)
theorem Zes (d:Zg) (a:Zt) (x:Zl) (hd:sm YU d) (ha:sm YR a) (hx:sm YJ x):QI d a x=some (tr (Zho a d x)):=by
 have sa:=Zv (Ztf ha);unfold QI;rw[show Jz (Zt.Cells a)=some ((Zt.Cells a).length:Int) from rfl,Bq,Zar (by omega) (by omega)];refine ZcH (P:=(0<=Zl.Cell x/\Zl.Cell x<=((Zt.Cells a).length:Int)-1)/\Zho a d x) (Yw (XB _ _ _) (λhw=>?_)) ⟨λq=>q.2,λq=>⟨q.1,q⟩⟩;obtain ⟨c,hc1,hc2⟩:=ZmO hw.1 (show Zl.Cell x<((Zt.Cells a).length:Int) by omega);rw[hc1,Bq];refine ZcH (P:=((Zl.X7 x).length:Int)=((Zk.Yz c).length:Int)/\∀ n∈Zl.X7 x,ZnY d n) (Xc (λhe=>?_)) ?_
 ·rw[Xp (Yt (Zov hx).2) (λn=>!tr (ZnY d n)) (λn _=>by
   unfold Xd;show (XR d n).bind _=_;rw[ZcN d n hd];rfl),Bq]
  refine Zaf ?_;rw[Bool.not_eq_true',List.any_eq_false];constructor
  ·intro q n hn
   have:=q n hn;simp only[Bool.not_eq_true',Bool.not_eq_false] at this;exact (QM _).1 this
  ·intro q n hn
   simp only[Bool.not_eq_true',Bool.not_eq_false];exact Yf (q n hn)
 ·constructor
  ·rintro ⟨q1,q2⟩;exact ⟨hw,⟨c,hc2,by omega⟩,q2⟩
  ·rintro ⟨_,⟨c',q1,q2⟩,q3⟩
   grind
theorem Zps {d:Zg} {k:Nat} {p:Ye} (hx:(Zg.Xb d)[k]?=some p) (s:List Int) :
  s++(((Zg.Xb d).take (k+1)).filter (λp=>decide (Ye.Dir p=1))).map Ye.Net=(if Ye.Dir p=1 then (s++(((Zg.Xb d).take k).filter (λp=>decide (Ye.Dir p=1))).map Ye.Net)++[Ye.Net p] else s++(((Zg.Xb d).take k).filter (λp=>decide (Ye.Dir p=1))).map Ye.Net):=by
 rw[Yy hx,List.filter_append,List.map_append];grind
theorem Zrh {d:Zg} (k m:Nat):(((Zg.Instances d).take m).map ZbW++(((Zg.Xb d).take k).filter (λp=>decide (Ye.Dir p=1))).map Ye.Net).length<=(Zg.Instances d).length+(Zg.Xb d).length:=by
 grind
theorem Zkn (a:Zt) (d:Zg) (ha:sm YR a) (hd:sm YU d):ZcW a d=some (tr (Zba a d)):=by
 obtain ⟨h1,h2,h3⟩:=Zjh hd;have s1:=Zv h1;have s2:=Zv h2;have s3:=Zv h3;unfold ZcW;refine ZcH (P:=ZoG a/\Ziv d/\(ZdM (Zg.Instances d) (λ_ x=>Zho a d x)/\(ZdM (Zg.Xb d) (λ_ p=>Zhq d p)/\Zix d))) (Yw (Zjv a ha) (λhL=>Yw (ZeZ d hd) (λhN=>?_))) (by rw[QW,QW];exact Iff.rfl);rw[Zd (by omega),Zd (by omega),Zd (by omega),Zd (by omega)];have:=Zfh (l:=Zg.Instances d) (ρ:=Bool) (λk=>((k:Int),ZkK (Zg.X7 d).length (((Zg.Instances d).take k).map ZbW),())) (λ_ x=>Zho a d x) (step:=λv=>VG a d v.1 v.2.1) (bad:=false) (good:=tr (ZdM (Zg.Xb d) (λ_ p=>Zhq d p)/\Zix d))
  (λk x hx hk _=>by
   have hsx:=ZeM h1 hx;simp only[VG,show (k:Int)<((Zg.Instances d).length:Int) from by omega,if_true,Zu,hx,Bq,Zes d a x hd ha hsx];constructor
   ·intro hh
    obtain ⟨e1,e2⟩:=hh.last hL (Zv (Zov hsx).2);rw[if_pos (Yf hh),e1,Bq,Zga e2.1 (by have:=e2.2;omega) (by grind) (F:=λo=>some (Sum.inl (Wq ((k:Int)+1),o,()))),Yy hx,List.map_append,Jb (by omega)];rfl
   ·intro hh;rw[if_neg (by rw[ZF hh];simp)])
  (λhA=>by
   simp only[VG,Int.lt_irrefl,if_false,List.take_length];have:=Zfh (l:=Zg.Xb d) (ρ:=Int×List Int×Unit ⊕ Bool) (λk=>((k:Int),ZkK (Zg.X7 d).length ((Zg.Instances d).map ZbW++(((Zg.Xb d).take k).filter (λp=>decide (Ye.Dir p=1))).map Ye.Net),())) (λ_ p=>Zhq d p) (step:=λv=>QC d v.1 v.2.1) (bad:=.inr false) (good:=.inr (tr (Zix d)))
    (λk p hx hk _=>by
     have hl:=Zrh (d:=d) k (Zg.Instances d).length;rw[List.take_length] at hl;simp only[QC,show (k:Int)<((Zg.Xb d).length:Int) from by omega,if_true,Zu,hx,Bq,ZcN d _ hd,Zps hx];by_cases d1:Ye.Dir p=1
     ·simp only[d1,if_true]
      constructor
      ·intro hh
       rw[if_pos (Yf hh.2),Zga hh.2.1 (by have:=hh.2.2;omega) (by omega) (F:=λo=>some (Sum.inl (Wq ((k:Int)+1),o,()))),Jb (by omega)]
      ·intro hh
       rw[if_neg (by rw[ZF (λq=>hh ⟨by omega,q⟩)];simp)]
     ·simp only[d1,if_false]
      by_cases d2:Ye.Dir p=2
      ·simp only[d2,if_true]
       constructor
       ·intro hh
        rw[if_pos (Yf hh.2),Jb (by omega)]
       ·intro hh
        rw[if_neg (by rw[ZF (λq=>hh ⟨by omega,q⟩)];simp)]
      ·simp only[d2,if_false]
       exact ⟨λhh=>by have:=hh.1;omega,λ_=>trivial⟩)
    (λ_=>by
     simp only[QC,Int.lt_irrefl,if_false,List.take_length];rw[QF (show Len _ by show List.length _<=_;rw[ZiC];omega) (λn=>!decide (n=1)) (λn _=>rfl),Bq];congr 3;refine (ZkJ ?_).symm;rw[Bool.not_eq_true',List.any_eq_false];simp only[Bool.not_eq_true',Bool.not_eq_false,decide_eq_true_eq,decide_eq_false_iff_not,Classical.not_not];exact Iff.rfl)
   refine (show Zq (λv=>QC d v.1 v.2.1) ((0:Int),ZkK (Zg.X7 d).length ((Zg.Instances d).map ZbW),())=_ from (by simpa using this)).trans ?_;by_cases hP:ZdM (Zg.Xb d) (λ_ p=>Zhq d p)
   ·rw[YS hP];grind
   ·rw[YC hP,ZF (λq=>hP q.1)])
 rw[ZbA] at this;refine Eq.trans ?_ this;rw[List.take_zero,List.map_nil,Znj];rfl
theorem ZkG (a:Zt) (d:Zg) (ha:sm YR a) (hd:sm YU d):Zc7 a d=some (tr (ZdM (Zg.Instances d) (λ_ x=>Zho a d x)/\ZdM (Zg.Xb d) (λ_ p=>Zhq d p))):=by
 obtain ⟨h1,h2,h3⟩:=Zjh hd;have s1:=Zv h1;have s2:=Zv h2;have s3:=Zv h3;have sa:=Zv (Ztf ha);have e1:Wq (((Zg.X7 d).length:Int)-1)=((Zg.X7 d).length:Int)-1:=Zar (by omega) (by omega);have e2:Wq (((Zt.Cells a).length:Int)-1)=((Zt.Cells a).length:Int)-1:=Zar (by omega) (by omega);unfold Zc7;rw[Qe (Yt h1) (λ_ x=>Zho a d x) (bad:=false) (good:=tr (ZdM (Zg.Xb d) (λ_ p=>Zhq d p)))
  (λk x hx hk _=>by
   have hsx:=ZeM h1 hx;simp only[ZaZ,show (k:Int)<((Zg.Instances d).length:Int) from by omega,if_true,Zu,hx,Bq,Qr,e2];by_cases hc:0<=Zl.Cell x/\Zl.Cell x<=((Zt.Cells a).length:Int)-1
   ·obtain ⟨c,hc1,hc2⟩:=ZmO hc.1 (show Zl.Cell x<((Zt.Cells a).length:Int) by omega)
    rw[if_pos (Yf hc),hc1,Bq];by_cases hp:((Zl.X7 x).length:Int)=((Zk.Yz c).length:Int)
    ·rw[if_pos hp,Qe (Yt (Zov hsx).2) (λ_ n=>ZnY d n) (bad:=.inr false) (good:=.inl (Wq ((k:Int)+1),()))
      (λj n hn hj _=>by
       simp only[ZaX,show (j:Int)<((Zl.X7 x).length:Int) from by omega,if_true,Zu,hn,Bq,Qr,e1];constructor
       ·intro hh;exact if_pos (Yf hh)
       ·intro hh;exact if_neg (λq=>hh ((QM _).1 q)))
      (λ_=>by simp only[ZaX,Int.lt_irrefl,if_false])]
     constructor
     ·intro hh;rw[YS (QW.2 hh.2.2)]
     ·intro hh;rw[YC (λq=>hh ⟨hc,⟨c,hc2,by omega⟩,QW.1 q⟩)]
    ·rw[if_neg hp]
     refine ⟨λhh=>?_,λ_=>rfl⟩;obtain ⟨_,⟨c',q1,q2⟩,_⟩:=hh;grind
   ·rw[if_neg (by rw[ZF hc];simp)]
    exact ⟨λhh=>absurd hh.1 hc,λ_=>rfl⟩)
  (λ_=>by
   simp only[ZaZ,Int.lt_irrefl,if_false];rw[Qe (Yt h2) (λ_ p=>Zhq d p) (bad:=.inr false) (good:=.inr true)
    (λk p hx hk _=>by
     simp only[ZaY,show (k:Int)<((Zg.Xb d).length:Int) from by omega,if_true,Zu,hx,Bq,Qr,e1];by_cases hc:1<=Ye.Dir p/\Ye.Dir p<=2
     ·rw[if_pos (Yf hc)]
      constructor
      ·intro hh;exact if_pos (Yf hh.2)
      ·intro hh;exact if_neg (λq=>hh ⟨hc,(QM _).1 q⟩)
     ·rw[if_neg (by rw[ZF hc];simp)]
      exact ⟨λhh=>absurd hh.1 hc,λ_=>rfl⟩)
    (λ_=>by simp only[ZaY,Int.lt_irrefl,if_false])]
   congr 1;by_cases hh:ZdM (Zg.Xb d) (λ_ p=>Zhq d p)
   ·rw[YS hh,Yf hh]
   ·rw[YC hh,ZF hh])]
 rw[ZbA]
theorem ZpV {α:Type} {l:List α} {f:α->List UInt8} (h:∀ x∈l,(f x).length<=4611686018427387904):∀ s∈l.map f,s.length<=4611686018427387904:=by
 grind
theorem ZfN (a:Zt) (d:Zg) (ha:sm YR a) (hd:sm YU d):ZbC a d=some (tr (Zba a d)):=by
 obtain ⟨h1,h2,h3⟩:=Zjh hd;have s1:=Zv h1;have s2:=Zv h2;have s3:=Zv h3;unfold ZbC;refine ZcH (Yw (ZjZ a ha) (λhL=>Zdj (λa1=>Zdj (λa2=>Zdj (λa3=>Yw (ZkG a d ha hd) (λhP=>?_))))))
  (P:=ZoG a/\¬(14:Int)<((Zg.Instances d).length:Int)/\¬(30:Int)<((Zg.X7 d).length:Int)/\¬(8:Int)<((Zg.Xb d).length:Int)/\(ZdM (Zg.Instances d) (λ_ x=>Zho a d x)/\ZdM (Zg.Xb d) (λ_ p=>Zhq d p))/\(X6 (ZcP d) (ZcP d).length/\X6 (ZaN d) (ZaN d).length/\X6 (Zg.X7 d) (Zg.X7 d).length)/\Zix d) ?_
 ·have hi:(ZcP d).length=(Zg.Instances d).length:=by simp[ZcP]
  have hp:(ZaN d).length=(Zg.Xb d).length:=by simp[ZaN]
  refine gather (l:=Zg.Instances d) s1 Zl.Name (λk x o hx hk ho=>?_) ?_
  ·simp only[ZaT,hk,if_true,Zu,hx,Bq]
  simp only[ZaT,Int.lt_irrefl,if_false];refine gather (l:=Zg.Xb d) s2 Ye.Name (λk x o hx hk ho=>?_) ?_
  ·simp only[ZaS,hk,if_true,Zu,hx,Bq]
  simp only[ZaS,Int.lt_irrefl,if_false];rw[show List.map Ye.Name (Zg.Xb d)=ZaN d from rfl,show List.map Zl.Name (Zg.Instances d)=ZcP d from rfl];simp only[ZcK (ZcP d) (by omega) (ZpV (λx hx=>ZdL (Zov (Zgr h1 hx)).1)),ZcK (ZaN d) (by omega) (ZpV (λx hx=>ZdL (ZuZ (Zgr h2 hx)))),ZcK (Zg.X7 d) (by omega) (λs hs=>ZdL (Zgr h3 hs)),Bq];by_cases n1:X6 (ZcP d) (ZcP d).length
  ·rw[if_pos (Yf n1)]
   by_cases n2:X6 (ZaN d) (ZaN d).length
   ·rw[if_pos (Yf n2)]
    by_cases n3:X6 (Zg.X7 d) (Zg.X7 d).length
    ·rw[if_pos (Yf n3),Zd (by omega),Zd (by omega),Zd (by omega),Zd (by omega)]
     have:=JF (l:=Zg.Instances d) (ρ:=(List (List UInt8))×Int×Unit ⊕ ((List (List UInt8))×Int×Unit ⊕ Bool)) (λk=>((k:Int),ZkK (Zg.X7 d).length (((Zg.Instances d).take k).map ZbW),())) (step:=λv=>VN d v.1 v.2.1) (good:=.inr (.inr (tr (Zix d))))
      (λk x hx hk=>by
       have hsx:=ZeM h1 hx;obtain ⟨e1,e2⟩:=(hP.1 k x hx).last hL (Zv (Zov hsx).2);simp only[VN,show (k:Int)<((Zg.Instances d).length:Int) from by omega,if_true,Zu,hx,Bq];rw[e1,Bq,Zga e2.1 (by have:=e2.2;omega) (by grind) (F:=λo=>some (Sum.inl (Wq ((k:Int)+1),o,()))),Yy hx,List.map_append,Jb (by omega)];rfl)
      (by
       simp only[VN,Int.lt_irrefl,if_false,List.take_length];have:=JF (l:=Zg.Xb d) (ρ:=Int×List Int×Unit ⊕ ((List (List UInt8))×Int×Unit ⊕ ((List (List UInt8))×Int×Unit ⊕ Bool))) (λk=>((k:Int),ZkK (Zg.X7 d).length ((Zg.Instances d).map ZbW++(((Zg.Xb d).take k).filter (λp=>decide (Ye.Dir p=1))).map Ye.Net),())) (step:=λv=>VL d v.1 v.2.1) (good:=.inr (.inr (.inr (tr (Zix d)))))
        (λk p hx hk=>by
         have hl:=Zrh (d:=d) k (Zg.Instances d).length;rw[List.take_length] at hl;have hpo:=hP.2 k p hx;simp only[VL,show (k:Int)<((Zg.Xb d).length:Int) from by omega,if_true,Zu,hx,Bq,Zps hx];by_cases d1:Ye.Dir p=1
         ·simp only[d1,if_true]
          rw[Zga hpo.2.1 (by have:=hpo.2.2;omega) (by omega) (F:=λo=>some (Sum.inl (Wq ((k:Int)+1),o,()))),Jb (by omega)]
         ·simp only[d1,if_false]
          rw[Jb (by omega)])
        (by
         simp only[VL,Int.lt_irrefl,if_false,List.take_length];rw[Qe (l:=ZkK (Zg.X7 d).length ((Zg.Instances d).map ZbW++((Zg.Xb d).filter (λp=>decide (Ye.Dir p=1))).map Ye.Net)) (show List.length _<=_ by rw[ZiC];omega) (λ_ x=>x=1) (bad:=.inr (.inr (.inr (.inr false)))) (good:=.inr (.inr (.inr (.inr true))))
          (λk x hx hk _=>by
           simp only[ZaR,show (k:Int)<((ZkK (Zg.X7 d).length ((Zg.Instances d).map ZbW++((Zg.Xb d).filter (λp=>decide (Ye.Dir p=1))).map Ye.Net)).length:Int) from by omega,if_true,Zu,hx,Bq];grind)
          (λ_=>by simp only[ZaR,Int.lt_irrefl,if_false])]
         congr 1;have e:ZdM (ZkK (Zg.X7 d).length ((Zg.Instances d).map ZbW++((Zg.Xb d).filter (λp=>decide (Ye.Dir p=1))).map Ye.Net)) (λ_ x=>x=1)<->Zix d:=by
          rw[QW];exact Iff.rfl
         by_cases hh:Zix d
         ·rw[YS (e.2 hh),Yf hh]
         ·rw[YC (λq=>hh (e.1 q)),ZF hh])
       grind)
     rw[List.take_zero,List.map_nil,Znj] at this;grind
    ·rw[if_neg (by rw[ZF n3];simp),ZF (λq=>n3 q.1.2.2)]
   ·rw[if_neg (by rw[ZF n2];simp),ZF (λq=>n2 q.1.2.1)]
  ·rw[if_neg (by rw[ZF n1];simp),ZF (λq=>n1 q.1.1)]
 ·unfold Zba Ziv
  rw[QW,QW];grind
def cat {α β:Type} (f:Nat->α->List β):Nat->List α->List β
 | _,[]=>[]
 | k,x::r=>f k x++cat f (k+1) r
theorem ZmP {α β:Type} (f:Nat->α->List β):∀ (l r:List α) (m:Nat),cat f m (l++r)=cat f m l++cat f (m+l.length) r
 | [],r,m=>by simp[cat]
 | x::l,r,m=>by
  simp only[List.cons_append,cat,List.length_cons,ZmP f l r,List.append_assoc];grind
theorem Zsq {α β:Type} {f:Nat->α->List β} {l:List α} {k:Nat} {x:α} (hx:l[k]?=some x):cat f 0 (l.take (k+1))=cat f 0 (l.take k)++f k x:=by
 have hk:=(List.getElem?_eq_some_iff.1 hx).1;rw[Yy hx,ZmP];simp only[cat,Nat.zero_add,List.length_take,List.append_nil];grind
theorem ZdH {α β:Type} {f:Nat->α->List β} {y:β}:∀ {l:List α} {m:Nat},y∈cat f m l<->∃ (k:Nat) (x:α),l[k]?=some x/\y∈f (m+k) x
 | [],m=>by simp[cat]
 | z::r,m=>by
  simp only[cat,List.mem_append,ZdH (l:=r)];constructor
  ·rintro (h | ⟨k,x,h1,h2⟩)
   ·exact ⟨0,z,rfl,h⟩
   ·exact ⟨k+1,x,by simpa using h1,by grind⟩
  grind
theorem ZhM {α β:Type} {f:Nat->α->List β} {c:Nat}:∀ {l:List α} {m:Nat},(∀ k,∀ x∈l,(f k x).length<=c)->(cat f m l).length<=c*l.length
 | [],m,_=>by simp[cat]
 | z::r,m,h=>by
  simp only[cat,List.length_append,List.length_cons];have h1:=h m z (by simp);have h2:=ZhM (f:=f) (l:=r) (m:=m+1) (λk x hx=>h k x (by simp[hx]));grind
theorem Za3 {α β ρ:Type} {l:List α} (f:Nat->α->List β) (acc:List β) {step:List β×Int×Unit->Option ((List β×Int×Unit) ⊕ ρ)} {good:ρ}
  (hs:∀ (k:Nat) (x:α),l[k]?=some x->k<l.length->step (acc++cat f 0 (l.take k),(k:Int),())=some (.inl ((acc++cat f 0 (l.take k))++f k x,((k+1:Nat):Int),())))
  (hx:step (acc++cat f 0 l,(l.length:Int),())=some (.inr good)):Zq step (acc,(0:Int),())=some good:=by
 have:=JF (l:=l) (ρ:=ρ) (λk=>(acc++cat f 0 (l.take k),(k:Int),())) (step:=step) (good:=good) (λk x hx hk=>by
  rw[hs k x hx hk,Zsq hx,List.append_assoc]) (by grind)
 simpa[cat] using this
abbrev Pl:=Int×Int×Int×Bool×Unit
def Zhx (i:Nat) (x:Zl):List Pl:=cat (λj n=>[((i:Int),(j:Int),n,decide ((j:Int)=Wq (((Zl.X7 x).length:Int)-1)),())]) 0 (Zl.X7 x)
def Zi7 (j:Nat) (p:Ye):List Pl:=[((-1:Int),(j:Int),Ye.Net p,decide (Ye.Dir p=1),())]
def Zw (d:Zg):List Pl:=cat Zhx 0 (Zg.Instances d)++cat Zi7 0 (Zg.Xb d)
theorem Zqp (i:Nat) (x:Zl):(Zhx i x).length<=(Zl.X7 x).length:=by
 have:=ZhM (f:=λj n=>[((i:Int),(j:Int),n,decide ((j:Int)=Wq (((Zl.X7 x).length:Int)-1)),())]) (c:=1) (l:=Zl.X7 x) (m:=0) (λ_ _ _=>by simp);simpa[Zhx] using this
structure Few (d:Zg):Prop where
 insts:(Zg.Instances d).length<=14
 ports:(Zg.Xb d).length<=8
 nets:∀ x∈Zg.Instances d,(Zl.X7 x).length<=5
theorem Zba.few {a:Zt} {d:Zg} (h:Zba a d):Few d:=by
 refine ⟨h.2.1.1,h.2.1.2.2.1,λx hx=>?_⟩;obtain ⟨_,⟨c,hc,hn⟩,_⟩:=h.2.2.1 x hx;have:=(h.1.2.1 c (List.mem_of_getElem? hc)).2.1.2.1;omega
theorem Zcv {d:Zg} (h:Few d) (k:Nat):(cat Zhx 0 ((Zg.Instances d).take k)).length<=70:=by
 have:=ZhM (f:=Zhx) (c:=5) (l:=(Zg.Instances d).take k) (m:=0) (λi x hx=>by
  have h1:=Zqp i x;have h2:=h.nets x (List.mem_of_mem_take hx);omega)
 have h1:=h.insts;grind
theorem Zf8 {d:Zg} (h:Few d) (k:Nat):(cat Zi7 0 ((Zg.Xb d).take k)).length<=8:=by
 have:=ZhM (f:=Zi7) (c:=1) (l:=(Zg.Xb d).take k) (m:=0) (λi x hx=>by simp[Zi7]);have h1:=h.ports;grind
theorem V9 {d:Zg} (h:Few d):(Zw d).length<=78:=by
 have h1:=Zcv h (Zg.Instances d).length;have h2:=Zf8 h (Zg.Xb d).length;rw[List.take_length] at h1 h2;unfold Zw;grind
theorem Q5 (d:Zg) (h:Few d):Xr d=some (Zw d):=by
 have h1:=h.insts;have h2:=h.ports;unfold Xr;refine Za3 (l:=Zg.Instances d) Zhx [] (λk x hx hk=>?_) ?_
 ·have hn:=h.nets x (List.mem_of_getElem? hx)
  have hl:=Zcv h k;simp only[List.nil_append,Vv,show (k:Int)<((Zg.Instances d).length:Int) from by omega,if_true,Zu,hx,Bq];refine Za3 (l:=Zl.X7 x) (λj n=>[((k:Int),(j:Int),n,decide ((j:Int)=Wq (((Zl.X7 x).length:Int)-1)),())]) _ (λj n hj hk'=>?_) ?_
  ·have hl2:=ZhM (f:=λj n=>[((k:Int),(j:Int),n,decide ((j:Int)=Wq (((Zl.X7 x).length:Int)-1)),())]) (c:=1) (l:=(Zl.X7 x).take j) (m:=0) (λ_ _ _=>by simp)
   rw[List.length_take] at hl2;simp only[Vt,show (j:Int)<((Zl.X7 x).length:Int) from by omega,if_true,Zu,hj,Bq];rw[Zd (by grind),Jb (by omega)]
  ·simp only[Vt,Int.lt_irrefl,if_false]
   rw[Jb (by omega)];rfl
 ·have hl:=Zcv h (Zg.Instances d).length
  rw[List.take_length] at hl;simp only[List.nil_append,Vv,Int.lt_irrefl,if_false];refine Za3 (l:=Zg.Xb d) Zi7 _ (λj p hj hk'=>?_) ?_
  ·have hl2:=Zf8 h j
   simp only[Vu,show (j:Int)<((Zg.Xb d).length:Int) from by omega,if_true,Zu,hj,Bq];rw[Zd (by grind),Jb (by omega)];rfl
  ·simp only[Vu,Int.lt_irrefl,if_false];rfl
theorem QA (d:Zg) (h:Few d):X3 d=some (Zw d):=by
 have h1:=h.insts;have h2:=h.ports;unfold X3;refine Za3 (l:=Zg.Instances d) Zhx [] (λk x hx hk=>?_) ?_
 ·have hn:=h.nets x (List.mem_of_getElem? hx)
  have hl:=Zcv h k;simp only[List.nil_append,Zap,show (k:Int)<((Zg.Instances d).length:Int) from by omega,if_true,Zu,hx,Bq];refine Za3 (l:=Zl.X7 x) (λj n=>[((k:Int),(j:Int),n,decide ((j:Int)=Wq (((Zl.X7 x).length:Int)-1)),())]) _ (λj n hj hk'=>?_) ?_
  ·have hl2:=ZhM (f:=λj n=>[((k:Int),(j:Int),n,decide ((j:Int)=Wq (((Zl.X7 x).length:Int)-1)),())]) (c:=1) (l:=(Zl.X7 x).take j) (m:=0) (λ_ _ _=>by simp)
   rw[List.length_take] at hl2;simp only[Zan,show (j:Int)<((Zl.X7 x).length:Int) from by omega,if_true,Zu,hj,Bq];rw[Zd (by grind),Jb (by omega)]
  ·simp only[Zan,Int.lt_irrefl,if_false]
   rw[Jb (by omega)];rfl
 ·have hl:=Zcv h (Zg.Instances d).length
  rw[List.take_length] at hl;simp only[List.nil_append,Zap,Int.lt_irrefl,if_false];refine Za3 (l:=Zg.Xb d) Zi7 _ (λj p hj hk'=>?_) ?_
  ·have hl2:=Zf8 h j
   simp only[Zao,show (j:Int)<((Zg.Xb d).length:Int) from by omega,if_true,Zu,hj,Bq];rw[Zd (by grind),Jb (by omega)];rfl
  ·simp only[Zao,Int.lt_irrefl,if_false];rfl
def Zl1 (net:Int) (i:Nat) (x:Pl):List Int:=if x.2.2.1=net then (if x.2.2.2.1=true then [] else [(i:Int)]) else []
def Zhl (d:Zg) (net:Int):List Int:=cat (Zl1 net) 0 (Zw d)
theorem Zl2 (net:Int) (l:List Pl) (m:Nat):(cat (Zl1 net) m l).length<=l.length:=by
 have:=ZhM (f:=Zl1 net) (c:=1) (l:=l) (m:=m) (λi x _=>by
  unfold Zl1;grind)
 omega
theorem Zha (d:Zg) (net:Int) (h:Few d):J2 d net=some (Zhl d net):=by
 have hp:=V9 h;unfold J2;rw[Q5 d h,Bq];refine Za3 (l:=Zw d) (Zl1 net) [] (λk x hx hk=>?_) ?_
 ·have hl:=Zl2 net ((Zw d).take k) 0
  rw[List.length_take] at hl;simp only[List.nil_append,VF,show (k:Int)<((Zw d).length:Int) from by omega,if_true,Zu,hx,Bq,Zl1,Jb (show k<=1048576 by omega)];split
  ·split
   ·rw[List.append_nil]
   ·rw[Zd (by
     grind)]
  grind
 ·simp only[List.nil_append,VF,Int.lt_irrefl,if_false];rfl
theorem ZkH (d:Zg) (net:Int) (h:Few d):Zc8 d net=some (Zhl d net):=by
 have hp:=V9 h;unfold Zc8;rw[QA d h,Bq];refine Za3 (l:=Zw d) (Zl1 net) [] (λk x hx hk=>?_) ?_
 ·have hl:=Zl2 net ((Zw d).take k) 0
  rw[List.length_take] at hl;simp only[List.nil_append,Za0,show (k:Int)<((Zw d).length:Int) from by omega,if_true,Zu,hx,Bq,Zl1,Jb (show k<=1048576 by omega)];split
  ·split
   ·rw[List.append_nil]
   ·rw[Zd (by
     grind)]
  grind
 ·simp only[List.nil_append,Za0,Int.lt_irrefl,if_false];rfl
def loads (d:Zg):List Int:=((Zw d).filter (λx=>!x.2.2.2.1)).map (λx=>x.2.2.1)
theorem Zl3 (net:Int):∀ (l:List Pl) (m:Nat),(cat (Zl1 net) m l).length=((l.filter (λx=>!x.2.2.2.1)).map (λx=>x.2.2.1)).countP (λy=>decide (y=net))
 | [],m=>by simp[cat]
 | x::r,m=>by
  simp only[cat,List.length_append,Zl3 net r,Zl1];grind
theorem Zp8 {w:Zx} (h:sm Za9 w):sm (.sl (.int .i64)) (Zx.Parent w)/\sm (.sl (.int .i64)) (Zx.Res w)/\sm (.sl (.int .i64)) (Zx.Cap w)/\sm (.sl (.int .i64)) (Zx.Zjo w):=by
 refine ⟨?_,?_,?_,?_⟩;all_goals first | exact h.1 | exact h.2.1 | exact h.2.2.1 | exact h.2.2.2.1
theorem ZnM {b:Zj} (h:sm Xz b):sm YR (Zj.Library b)/\sm YU (Zj.Design b)/\sm (.sl Za9) (Zj.Qg b):=by
 refine ⟨?_,?_,?_⟩;all_goals first | exact h.1 | exact h.2.1 | exact h.2.2.1 | exact h.2.2.2.1
def ZkV (w:Zx) (k:Nat) (x:Int):Prop:=(k=0->x=-1/\(Zx.Res w)[0]?=some 0)/\(0<k->0<=x/\x<=(k:Int)-1)
def Zf2 (w:Zx) (s:Int):Prop :=
 (1<=(Zx.Parent w).length/\(Zx.Parent w).length<=8)/\(Zx.Res w).length=(Zx.Parent w).length/\(Zx.Cap w).length=(Zx.Parent w).length/\((Zx.Zjo w).length:Int)=s/\
 ZdM (Zx.Parent w) (ZkV w)/\Zf0 (Zx.Res w) 0 1000/\Zf0 (Zx.Cap w) 0 500/\Zf0 (Zx.Zjo w) 0 (((Zx.Parent w).length:Int)-1)
theorem ZdS (l:List Int) (lo hi:Int) (hl:l.length<=1048576):Xe l lo hi=some (tr (Zf0 l lo hi)):=by
 rw[J4 l lo hi (by omega)];exact Zaf (Ziy _ _ _)
theorem Zh0 (w:Zx) (hw:sm Za9 w) (h1:1<=(Zx.Parent w).length) (h2:(Zx.Res w).length=(Zx.Parent w).length):ZaA w=some (tr (ZdM (Zx.Parent w) (ZkV w))):=by
 obtain ⟨a1,a2,a3,a4⟩:=Zp8 hw;have s1:=Zv a1;unfold ZaA;have hr:(Zx.Res w)[0]?=some (Zx.Res w)[0]:=List.getElem?_eq_getElem (by omega);rw[Qe (Yt a1) (ZkV w) (bad:=false) (good:=true)
  (λk x hx hk _=>by
   simp only[Jd,show (k:Int)<((Zx.Parent w).length:Int) from by omega,if_true,Zu,hx,Bq];unfold ZkV;by_cases hk0:k=0
   ·subst hk0
    rw[if_pos (by rfl),show atI (Zx.Res w) 0=some (Zx.Res w)[0] from hr,hr];grind
   ·rw[if_neg (by omega),if_pos (by omega),XB,Bq,Zar (by omega) (by omega)]
    constructor
    ·intro hh;rw[if_pos (Yf (hh.2 (by omega)))]
    ·intro hh;rw[if_neg (λq=>hh ⟨λh=>absurd h hk0,λ_=>(QM _).1 q⟩)])
  (λ_=>by simp only[Jd,Int.lt_irrefl,if_false]),Zkg]
theorem Zmk (w:Zx) (s:Int) (hw:sm Za9 w):Ze1 w s=some (tr (Zf2 w s)):=by
 obtain ⟨a1,a2,a3,a4⟩:=Zp8 hw;have s1:=Zv a1;have s2:=Zv a2;have s3:=Zv a3;have s4:=Zv a4;unfold Ze1;simp only[Zah,Bq,Zar (show (-9223372036854775808:Int)<=((Zx.Parent w).length:Int)-1 by omega) (by omega)];refine ZcH (Yw (XB _ _ _) (λq1=>Xc (λq2=>Xc (λq3=>Yw (Zh0 w hw (by omega) (by omega)) (λq4=>Yw (ZdS _ _ _ s2) (λq5=>Yw (ZdS _ _ _ s3) (λq6=>Xc (λq7=>ZbP (ZdS _ _ _ s4))))))))) ?_;unfold Zf2;grind
theorem Zpj {l:List Int} {lo hi:Int}:Zf0 l lo hi<->∀ (k:Nat) (x:Int),l[k]?=some x->lo<=x/\x<=hi:=by
 unfold Zf0;constructor
 ·intro h k x hx;exact h x (List.mem_of_getElem? hx)
 ·intro h x hx
  obtain ⟨k,hk⟩:=List.mem_iff_getElem?.1 hx;exact h k x hk
theorem ZmG (w:Zx) (s:Int) (hw:sm Za9 w):Zft w s=some (tr (Zf2 w s)):=by
 obtain ⟨a1,a2,a3,a4⟩:=Zp8 hw;have s1:=Zv a1;have s2:=Zv a2;have s3:=Zv a3;have s4:=Zv a4;have e1:Wq (((Zx.Parent w).length:Int)-1)=((Zx.Parent w).length:Int)-1:=Zar (by omega) (by omega);unfold Zft;refine ZcH (Zdj (λq1=>Zdj (λq2=>Xc (λq3=>Xc (λq4=>Xc (λq5=>?_)))))) ?_
  (P:=¬((Zx.Parent w).length:Int)<1/\¬(8:Int)<((Zx.Parent w).length:Int)/\((Zx.Res w).length:Int)=((Zx.Parent w).length:Int)/\((Zx.Cap w).length:Int)=((Zx.Parent w).length:Int)/\((Zx.Zjo w).length:Int)=s/\
   (ZdM (Zx.Parent w) (λk x=>(∀ c,(Zx.Cap w)[k]?=some c->0<=c/\c<=500)/\(∀ r,(Zx.Res w)[k]?=some r->0<=r/\r<=1000)/\ZkV w k x)/\Zf0 (Zx.Zjo w) 0 (((Zx.Parent w).length:Int)-1)))
 ·rw[Qe (Yt a1) (λk x=>(∀ c,(Zx.Cap w)[k]?=some c->0<=c/\c<=500)/\(∀ r,(Zx.Res w)[k]?=some r->0<=r/\r<=1000)/\ZkV w k x) (bad:=false) (good:=tr (Zf0 (Zx.Zjo w) 0 (((Zx.Parent w).length:Int)-1)))
   (λk x hx hk _=>by
    have hc:(Zx.Cap w)[k]?=some (Zx.Cap w)[k]:=List.getElem?_eq_getElem (by omega);have hr:(Zx.Res w)[k]?=some (Zx.Res w)[k]:=List.getElem?_eq_getElem (by omega);simp only[Zb4,show (k:Int)<((Zx.Parent w).length:Int) from by omega,if_true,Zu,hc,hr,hx,Bq,Qr,Option.some.injEq,forall_eq'];generalize (Zx.Cap w)[k]=c at hc;generalize (Zx.Res w)[k]=r at hr;by_cases qc:0<=c/\c<=500
    ·rw[if_pos (Yf qc)]
     by_cases qr:0<=r/\r<=1000
     ·rw[if_pos (Yf qr)]
      unfold ZkV;by_cases hk0:k=0
      ·simp_all
      ·rw[if_neg (by omega),if_pos (by omega),Zar (show (-9223372036854775808:Int)<=(k:Int)-1 by omega) (by omega)]
       constructor
       ·intro hh;rw[if_pos (Yf (hh.2.2.2 (by omega)))]
       ·intro hh;rw[if_neg (λq=>hh ⟨qc,qr,λh=>absurd h hk0,λ_=>(QM _).1 q⟩)]
     ·rw[if_neg (λq=>qr ((QM _).1 q))]
      grind
    ·rw[if_neg (λq=>qc ((QM _).1 q))]
     grind)
   (λ_=>by
    simp only[Zb4,Int.lt_irrefl,if_false];rw[Qe (Yt a4) (λ_ x=>0<=x/\x<=((Zx.Parent w).length:Int)-1) (bad:=.inr false) (good:=.inr true)
     (λk x hx hk _=>by
      simp only[Zb3,show (k:Int)<((Zx.Zjo w).length:Int) from by omega,if_true,Zu,hx,Bq,Qr,e1];constructor
      ·intro hh;rw[if_pos (Yf hh)]
      ·intro hh;rw[if_neg (λq=>hh ((QM _).1 q))])
     (λ_=>by simp only[Zb3,Int.lt_irrefl,if_false])]
    congr 1;have e:ZdM (Zx.Zjo w) (λ_ x=>0<=x/\x<=((Zx.Parent w).length:Int)-1)<->Zf0 (Zx.Zjo w) 0 (((Zx.Parent w).length:Int)-1):=QW;by_cases hh:Zf0 (Zx.Zjo w) 0 (((Zx.Parent w).length:Int)-1)
    ·rw[YS (e.2 hh),Yf hh]
    ·rw[YC (λq=>hh (e.1 q)),ZF hh]),ZbA]
 ·unfold Zf2
  rw[Zpj (l:=Zx.Res w),Zpj (l:=Zx.Cap w)];constructor
  ·rintro ⟨q1,q2,q3,q4,q5,q6,q7⟩
   refine ⟨⟨by omega,by omega⟩,by omega,by omega,q5,λk x hx=>(q6 k x hx).2.2,λk r hr=>?_,λk c hc=>?_,q7⟩
   ·have hk:=(List.getElem?_eq_some_iff.1 hr).1
    exact (q6 k _ (List.getElem?_eq_getElem (by omega))).2.1 r hr
   ·have hk:=(List.getElem?_eq_some_iff.1 hc).1
    exact (q6 k _ (List.getElem?_eq_getElem (by omega))).1 c hc
  ·rintro ⟨q1,q2,q3,q5,q6,q7,q8,q9⟩
   exact ⟨by omega,by omega,by omega,by omega,q5,λk x hx=>⟨λc hc=>q8 k c hc,λr hr=>q7 k r hr,q6 k x hx⟩,q9⟩
def ZhJ (b:Zj):Prop :=
 Zba (Zj.Library b) (Zj.Design b)/\(Zj.Qg b).length=(Zg.X7 (Zj.Design b)).length/\ZdM (Zj.Qg b) (λk w=>Zf2 w ((Zhl (Zj.Design b) (k:Int)).length:Int))
theorem Zol {a:Zt} {d:Zg} (h:Zba a d) {x:Pl} (hx:x∈Zw d):ZnY d x.2.2.1:=by
 unfold Zw at hx;rcases List.mem_append.1 hx with hx | hx
 ·obtain ⟨i,z,hi,hz⟩:=ZdH.1 hx
  unfold Zhx at hz;obtain ⟨j,n,hj,hn⟩:=ZdH.1 hz;simp only[List.mem_singleton] at hn;subst hn;exact (h.2.2.1 z (List.mem_of_getElem? hi)).2.2 n (List.mem_of_getElem? hj)
 ·obtain ⟨j,p,hj,hp⟩:=ZdH.1 hx
  simp only[Zi7,List.mem_singleton] at hp;subst hp;exact (h.2.2.2.1 p (List.mem_of_getElem? hj)).2
theorem Zgs (b:Zj) (hb:sm Xz b):ZcD b=some (tr (ZhJ b)):=by
 obtain ⟨a1,a2,a3⟩:=ZnM hb;have s3:=Zv a3;unfold ZcD;refine ZcH (Yw (ZfN _ _ a1 a2) (λhD=>Xc (λq1=>?_))) ?_
  (P:=Zba (Zj.Library b) (Zj.Design b)/\((Zj.Qg b).length:Int)=((Zg.X7 (Zj.Design b)).length:Int)/\ZdM (Zj.Qg b) (λk w=>Zf2 w ((Zhl (Zj.Design b) (k:Int)).length:Int)))
 ·rw[Qe (Yt a3) (λk w=>Zf2 w ((Zhl (Zj.Design b) (k:Int)).length:Int)) (bad:=false) (good:=true)
   (λk w hx hk _=>by
    simp only[ZbB,show (k:Int)<((Zj.Qg b).length:Int) from by omega,if_true,Zu,hx,Bq,ZkH _ _ hD.few,ZmG w _ (ZeM a3 hx)];constructor
    ·intro hh;rw[if_pos (Yf hh)]
    ·intro hh;rw[if_neg (λq=>hh ((QM _).1 q))])
   (λ_=>by simp only[ZbB,Int.lt_irrefl,if_false]),Zkg]
 ·unfold ZhJ
  grind
theorem Zqt {l:List Pl} {k:Nat} {x:Pl} (hx:l[k]?=some x) :
  (((l.take (k+1)).filter (λx=>!x.2.2.2.1)).map (λx=>x.2.2.1))=if x.2.2.2.1=true then (((l.take k).filter (λx=>!x.2.2.2.1)).map (λx=>x.2.2.1)) else (((l.take k).filter (λx=>!x.2.2.2.1)).map (λx=>x.2.2.1))++[x.2.2.1]:=by
 rw[Yy hx,List.filter_append,List.map_append];grind
theorem Zlh (b:Zj) (hb:sm Xz b):ZdX b=some (tr (ZhJ b)):=by
 obtain ⟨a1,a2,a3⟩:=ZnM hb;have s3:=Zv a3;unfold ZdX;refine ZcH (Yw (Zkn _ _ a1 a2) (λhD=>Xc (λq1=>?_))) ?_
  (P:=Zba (Zj.Library b) (Zj.Design b)/\((Zj.Qg b).length:Int)=((Zg.X7 (Zj.Design b)).length:Int)/\ZdM (Zj.Qg b) (λk w=>Zf2 w ((Zhl (Zj.Design b) (k:Int)).length:Int)))
 ·rw[Zd (by omega),Zd (by omega),Zd (by omega),Zd (by omega),Q5 _ hD.few,Bq]
  have hpl:=V9 hD.few;have:=JF (l:=Zw (Zj.Design b)) (ρ:=Bool) (λk=>((k:Int),ZkK (Zj.Qg b).length ((((Zw (Zj.Design b)).take k).filter (λx=>!x.2.2.2.1)).map (λx=>x.2.2.1)),())) (step:=λv=>Jh b (Zw (Zj.Design b)) v.1 v.2.1) (good:=tr (ZdM (Zj.Qg b) (λk w=>Zf2 w ((Zhl (Zj.Design b) (k:Int)).length:Int))))
   (λk x hx hk=>by
    have hn:=Zol hD (List.mem_of_getElem? hx);have hl1:=List.length_filter_le (λx:Pl=>!x.2.2.2.1) ((Zw (Zj.Design b)).take k);rw[List.length_take] at hl1;simp only[Jh,show (k:Int)<((Zw (Zj.Design b)).length:Int) from by omega,if_true,Zu,hx,Bq,Zqt hx];by_cases hd:x.2.2.2.1=true
    ·rw[if_pos hd,if_pos hd,Jb (by omega)]
    ·rw[if_neg hd,if_neg hd,Zga hn.1 (by have:=hn.2;grind) (by grind) (F:=λo=>some (Sum.inl (Wq ((k:Int)+1),o,()))),Jb (by omega)])
   (by
    simp only[Jh,Int.lt_irrefl,if_false,List.take_length];rw[Qe (Yt a3) (λk w=>Zf2 w ((Zhl (Zj.Design b) (k:Int)).length:Int)) (bad:=.inr false) (good:=.inr true)
     (λk w hx hk _=>by
      have hc:(Zhl (Zj.Design b) (k:Int)).length=_:=Zl3 (k:Int) (Zw (Zj.Design b)) 0;simp only[Zbm,show (k:Int)<((Zj.Qg b).length:Int) from by omega,if_true,Zu,hx,Bq];rw[ZkL hk,Bq,Zmk w _ (ZeM a3 hx),Bq,hc];constructor
      ·intro hh;rw[if_pos (Yf hh)]
      ·intro hh;rw[if_neg (λq=>hh ((QM _).1 q))])
     (λ_=>by simp only[Zbm,Int.lt_irrefl,if_false])]
    congr 1;by_cases hh:ZdM (Zj.Qg b) (λk w=>Zf2 w ((Zhl (Zj.Design b) (k:Int)).length:Int))
    ·rw[YS hh,Yf hh]
    ·rw[YC hh,ZF hh])
  rw[List.take_zero,List.filter_nil,List.map_nil,Znj] at this;exact this
 ·unfold ZhJ
  grind
structure ZdN (b:Zj):Prop where
 ok:ZhJ b
 sm:sm Xz b
theorem Zgk {α τ ρ:Type} {l:List α} (I:Nat->τ->Prop) (Q:ρ->Prop) {step:τ->Option (τ ⊕ ρ)} {v:τ} (h0:I 0 v)
  (hs:∀ (k:Nat) (x:α) (v:τ),l[k]?=some x->k<l.length->I k v->∃ v',step v=some (.inl v')/\I (k+1) v')
  (hx:∀ v,I l.length v->∃ r,step v=some (.inr r)/\Q r):∃ r,Zq step v=some r/\Q r :=
 JQ l.length I Q h0 (λk v hk hI=>.inl (hs k l[k] v (List.getElem?_eq_getElem hk) hk hI)) hx
theorem ZkY {α:Type} {l:List α} {i:Int} (h0:0<=i) (h1:i<(l.length:Int)):∃ x,atI l i=some x/\x∈l:=by
 obtain ⟨x,h2,h3⟩:=ZmO h0 h1;grind
theorem ZrT {a:Zt} {d:Zg} (h:Zba a d) {x:Pl} (hx:x∈Zw d):∃ n,JZ d a x=some n:=by
 unfold JZ;split
 ·exact ⟨_,rfl⟩
 ·rename_i hneg
  unfold Zw at hx;rcases List.mem_append.1 hx with hx | hx
  ·obtain ⟨i,z,hi,hz⟩:=ZdH.1 hx
   unfold Zhx at hz;obtain ⟨j,n,hj,hn⟩:=ZdH.1 hz;simp only[List.mem_singleton] at hn;subst hn;rw[Nat.zero_add] at hneg;obtain ⟨hc,⟨c,hc1,hc2⟩,_⟩:=h.2.2.1 z (List.mem_of_getElem? hi);have hj2:=(List.getElem?_eq_some_iff.1 hj).1;simp only[YA.instance,YA.pin,Nat.zero_add,Zu,hi,Bq];rw[Zbc hc.1 hc1,Bq];grind
  ·obtain ⟨j,p,hj,hp⟩:=ZdH.1 hx
   simp only[Zi7,List.mem_singleton] at hp;grind
theorem ZrF {d:Zg} {net y:Int} (h:y∈Zhl d net):0<=y/\y<((Zw d).length:Int):=by
 obtain ⟨k,x,hk,hy⟩:=ZdH.1 h;have:=(List.getElem?_eq_some_iff.1 hk).1;unfold Zl1 at hy;grind
theorem Zi6 {b:Zj} (h:ZdN b) {k:Nat} {w:Zx} (hw:(Zj.Qg b)[k]?=some w):∃ r,Qh b (k:Int)=some r/\r.length=(Zx.Parent w).length:=by
 have hW:=h.ok.2.2 k w hw;have hD:=h.ok.1;have hf:=hD.few;obtain ⟨⟨l1,l8⟩,lr,lc,ls,ht,ar,ac,asn⟩:=hW;have hpl:=V9 hf;have hsl:=Zl2 (k:Int) (Zw (Zj.Design b)) 0;have hsl2:(Zhl (Zj.Design b) (k:Int)).length<=78:=by unfold Zhl;omega
 unfold Qh;rw[Zu,hw,Bq];unfold Vg;rw[Zd (by simp;omega),Bq,Q5 _ hf,Bq,Zha _ _ hf,Bq];refine Zgk (l:=Zhl (Zj.Design b) (k:Int)) (λm v=>v.1=(m:Int)/\v.2.1.length=(Zx.Parent w).length) _ ⟨rfl,by simp;omega⟩ ?_ ?_
 ·rintro m y ⟨i,l,⟨⟩⟩ hy hm ⟨hi,hl⟩
  simp only at hi hl;subst hi;have hz:(Zx.Zjo w)[m]?=some (Zx.Zjo w)[m]:=List.getElem?_eq_getElem (by omega);generalize (Zx.Zjo w)[m]=z at hz;have hz2:=asn z (List.mem_of_getElem? hz);obtain ⟨q,hq1,_⟩:=ZkY (l:=l) hz2.1 (by omega);obtain ⟨hy1,hy2⟩:=ZrF (List.mem_of_getElem? hy);obtain ⟨p,hp1,hp2⟩:=ZkY hy1 hy2;obtain ⟨c,hc⟩:=ZrT hD hp2;simp only[QT,show (m:Int)<((Zhl (Zj.Design b) (k:Int)).length:Int) from by omega,if_true,Zu,hy,hz,Bq,hq1,hp1,hc];exact ⟨_,rfl,by rw[Jb (by omega)],by simp[hl]⟩
 ·rintro ⟨i,l,⟨⟩⟩ ⟨hi,hl⟩
  simp only at hi hl;subst hi;simp only[QT,Int.lt_irrefl,if_false];have:=ZqM (σ:=Int×List Int×Unit) (ρ:=(Int×List Int×Unit) ⊕ List Int) (step:=λv=>QS w v.1 v.2.1) (λv=>(∃ j:Nat,v.1=(j:Int)/\j<(Zx.Parent w).length)/\v.2.1.length=(Zx.Parent w).length) (λv=>v.1.toNat) (λr=>∃ r',r=.inr r'/\r'.length=(Zx.Parent w).length) (v:=(Wq ((l.length:Int)-1),l,()))
   ⟨⟨l.length-1,by show Wq _=_;rw[Zj5 (by omega) (by omega)],by omega⟩,hl⟩
   (by
    rintro ⟨i,l,⟨⟩⟩ ⟨⟨j,hj,hj2⟩,hl⟩;simp only at hj hl;subst hj;simp only[QS];by_cases h0:(0:Int)<(j:Int)
    ·rw[if_pos h0]
     have hp:(Zx.Parent w)[j]?=some (Zx.Parent w)[j]:=List.getElem?_eq_getElem (by omega);generalize (Zx.Parent w)[j]=p at hp;have hp2:=(ht j p hp).2 (by omega);obtain ⟨q,hq1,_⟩:=ZkY (l:=l) hp2.1 (by omega);have hl2:l[j]?=some l[j]:=List.getElem?_eq_getElem (by omega);simp only[Zu,hp,Bq,hq1,hl2];left;refine ⟨_,rfl,⟨⟨j-1,by rw[Zj5 (by omega) (by omega)],by omega⟩,by simp[hl]⟩,?_⟩;show (Wq ((j:Int)-1)).toNat<((j:Int)).toNat;rw[Zj5 (by omega) (by omega)];omega
    grind)
  grind
theorem Zk6 {b:Zj} (h:ZdN b) {k:Nat} {w:Zx} (hw:(Zj.Qg b)[k]?=some w):∃ r,QH b (k:Int)=some r/\r.length<=1048576:=by
 have hW:=h.ok.2.2 k w hw;obtain ⟨⟨l1,l8⟩,lr,lc,ls,ht,ar,ac,asn⟩:=hW;obtain ⟨nl,hnl,hnl2⟩:=Zi6 h hw;have hsm:=Zv (Zp8 (ZeM (ZnM h.sm).2.2 hw)).2.2.2;have hnd:∃ r,Q0 b (k:Int)=some r/\r.length=(Zx.Parent w).length:=by
  unfold Q0;rw[Zu,hw,Bq,hnl,Bq,Zd (by omega),Zd (by omega),Zd (by omega),Zd (by omega)];refine JQ ((Zx.Parent w).length-1) (λm v=>v.1=((m+1:Nat):Int)/\v.2.1.length=(Zx.Parent w).length) _ ⟨rfl,by simp[hnl2]⟩ ?_ ?_
  ·rintro m ⟨i,l,⟨⟩⟩ hm ⟨hi,hl⟩
   simp only at hi hl;subst hi;left;have hp:(Zx.Parent w)[m+1]?=some (Zx.Parent w)[m+1]:=List.getElem?_eq_getElem (by omega);generalize (Zx.Parent w)[m+1]=p at hp;have hp2:=(ht (m+1) p hp).2 (by omega);obtain ⟨q,hq1,_⟩:=ZkY (l:=l) hp2.1 (by omega);have hr:(Zx.Res w)[m+1]?=some (Zx.Res w)[m+1]:=List.getElem?_eq_getElem (by omega);have hn:nl[m+1]?=some nl[m+1]:=List.getElem?_eq_getElem (by omega);have hl2:l[m+1]?=some l[m+1]:=List.getElem?_eq_getElem (by omega);simp only[QB,show ((m+1:Nat):Int)<(l.length:Int) from by omega,if_true,Zu,hp,hq1,hr,hn,hl2,Bq];exact ⟨_,rfl,by rw[Jb (by omega)],by simp[hl]⟩
  ·rintro ⟨i,l,⟨⟩⟩ ⟨hi,hl⟩
   simp only at hi hl;subst hi;simp only[QB,show ¬(((Zx.Parent w).length-1+1:Nat):Int)<(l.length:Int) from by omega,if_false];grind
 obtain ⟨nd,hnd,hnd2⟩:=hnd;unfold QH;rw[hnd,Bq,Zu,hw,Bq];refine Zgk (l:=Zx.Zjo w) (λm v=>v.1.length=m/\v.2.1=(m:Int)) _ ⟨rfl,rfl⟩ ?_ ?_
 ·rintro m y ⟨o,i,⟨⟩⟩ hy hm ⟨ho,hi⟩
  simp only at hi ho;subst hi;have hz2:=asn y (List.mem_of_getElem? hy);obtain ⟨q,hq1,_⟩:=ZkY (l:=nd) hz2.1 (by omega);simp only[Qo,show (m:Int)<((Zx.Zjo w).length:Int) from by omega,if_true,Zu,hy,hq1,Bq];rw[Zd (by simp;omega)];exact ⟨_,rfl,by simp[ho],by rw[Jb (by omega)]⟩
 ·rintro ⟨o,i,⟨⟩⟩ ⟨ho,hi⟩
  simp only at hi ho;subst hi;simp only[Qo,Int.lt_irrefl,if_false];grind
theorem Zmb (a:ZC):∃ r,Vj a=some r/\r.length<=4:=by
 unfold Vj;repeat' split
 all_goals grind
theorem Zng {b:Zj} (h:ZdN b) {x:Zl} (hx:x∈Zg.Instances (Zj.Design b)) (f:Int):∃ r,Vk b x f=some r/\r.length<=32:=by
 obtain ⟨hc,⟨c,hc1,hc2⟩,_⟩:=h.ok.1.2.2.1 x hx;have hA:=(h.ok.1.1.2.1 c (List.mem_of_getElem? hc1)).2.2.1.1;unfold Vk;rw[Zbc hc.1 hc1,Bq];refine Zgk (l:=Zk.JR c) (λm v=>v.1.length<=4*m/\v.2.1=(m:Int)) _ ⟨by simp,rfl⟩ ?_ ?_
 ·rintro m y ⟨o,i,⟨⟩⟩ hy hm ⟨ho,hi⟩
  simp only at hi ho;subst hi;obtain ⟨ts,ht1,ht2⟩:=Zmb y;simp only[QO,show (m:Int)<((Zk.JR c).length:Int) from by omega,if_true,Zu,hy,ht1,Bq];obtain ⟨r,hr1,r',rfl,hr2⟩:=Zgk (l:=ts) (ρ:=(List Vq×Int×Unit) ⊕ List Vq) (step:=λv=>XI f (m:Int) y ts v.1 v.2.1) (v:=(o,(0:Int),())) (λn v=>v.1.length=o.length+n/\v.2.1=(n:Int)) (λr=>∃ r',r=.inl r'/\r'.1.length<=4*(m+1)/\r'.2.1=((m+1:Nat):Int)) ⟨rfl,rfl⟩
   (by
    rintro n z ⟨o2,i,⟨⟩⟩ hz hn ⟨ho2,hi⟩;simp only at hi ho2;subst hi;simp only[XI,show (n:Int)<(ts.length:Int) from by omega,if_true,Zu,hz,Bq];rw[Zd (by simp;omega)];exact ⟨_,rfl,by simp[ho2];omega,by rw[Jb (by omega)]⟩)
   (by
    rintro ⟨o2,i,⟨⟩⟩ ⟨ho2,hi⟩;simp only at hi ho2;subst hi;simp only[XI,Int.lt_irrefl,if_false];exact ⟨_,rfl,_,rfl,by simp only;omega,by rw[Jb (by omega)]⟩)
  grind
 ·rintro ⟨o,i,⟨⟩⟩ ⟨ho,hi⟩
  simp only at hi ho;subst hi;simp only[QO,Int.lt_irrefl,if_false];grind
def Short (l:List (List Int)) (n m:Nat):Prop:=l.length=n/\∀ x∈l,x.length<=m
theorem Short.set {l:List (List Int)} {n m:Nat} (h:Short l n m) {x:List Int} (hx:x.length<=m) (i:Nat):Short (l.set i x) n m:=by
 refine ⟨by simp[h.1],λy hy=>?_⟩;rcases List.mem_or_eq_of_mem_set hy with hy | rfl
 ·exact h.2 y hy
 ·exact hx
theorem Short.mono {l:List (List Int)} {n m p:Nat} (h:Short l n m) (hp:m<=p):Short l n p:=⟨h.1,λx hx=>Nat.le_trans (h.2 x hx) hp⟩
theorem Zo4 {b:Zj} (h:ZdN b):∃ v,Zd3 b=some v/\Z0.Zw v=Zw (Zj.Design b)/\Z0.Block v=b:=by
 have hD:=h.ok.1;have hf:=hD.few;have hpl:=V9 hf;have h14:=hf.insts;have hwn:=h.ok.2.1;have h30:=hD.2.1.2.1;unfold Zd3;rw[Q5 _ hf,Bq];refine Zgk (l:=Zg.Instances (Zj.Design b)) (λk v=>v.2.1=(k:Int)/\v.2.2.1.length<=32*k) _ ⟨rfl,by simp⟩ ?_ ?_
 ·rintro k x ⟨n,i,c,⟨⟩⟩ hx hk ⟨hi,hc⟩
  simp only at hi hc;subst hi;obtain ⟨r,hr1,hr2⟩:=Zng h (List.mem_of_getElem? hx) n;simp only[Zbp,show (k:Int)<((Zg.Instances (Zj.Design b)).length:Int) from by omega,if_true,Zu,hx,hr1,Bq,Zah];rw[Zd (by omega)];exact ⟨_,rfl,by simp only;rw[Jb (by omega)],by grind⟩
 ·rintro ⟨n,i,c0,⟨⟩⟩ ⟨hi,hc0⟩
  simp only at hi hc0;subst hi;simp only[Zbp,Int.lt_irrefl,if_false];rw[Zd (by omega),Zd (by omega),Zd (by omega),Zd (by omega),Zd (by omega)];obtain ⟨r,hr1,r',rfl,hr2⟩:=Zgk (l:=Zw (Zj.Design b)) (ρ:=(Int×Int×List Vq×Unit) ⊕ Z0) (step:=λv=>Jl b (Zw (Zj.Design b)) c0 v.1 v.2.1 v.2.2.1) (v:=((0:Int),List.replicate (Int.toNat (↑(List.length (Zj.Qg b)):Int)) (0:Int),List.replicate (Int.toNat (↑(List.length (Zj.Qg b)):Int)) (([]:List Int)),()))
   (λk v=>v.1=(k:Int)/\v.2.1.length=(Zj.Qg b).length/\Short v.2.2.1 (Zj.Qg b).length k)
   (λr=>∃ r',r=.inr r'/\Z0.Zw r'=Zw (Zj.Design b)/\Z0.Block r'=b)
   ⟨rfl,by simp,by simp,by
    grind⟩
   (by
    rintro k x ⟨i,l0,l1,⟨⟩⟩ hx hk ⟨hi,h0,h1⟩;simp only at hi h0 h1;subst hi;have hn:=Zol hD (List.mem_of_getElem? hx);have hn1:=hn.2;simp only[Jl,show (k:Int)<((Zw (Zj.Design b)).length:Int) from by omega,if_true,Zu,hx,Bq];obtain ⟨q,hq1,_⟩:=ZkY (l:=l0) hn.1 (by omega);obtain ⟨p,hp1,hp2⟩:=ZkY (l:=l1) hn.1 (by have:=h1.1;omega);have hp3:=h1.2 p hp2;split
    ·rw[show atI l0 (YA.net x)=some q from hq1,Bq]
     exact ⟨_,rfl,by simp only;rw[Jb (by omega)],by simp[h0],h1.mono (by omega)⟩
    ·rw[show atI l1 (YA.net x)=some p from hp1,Bq,Zd (by simp;omega)]
     exact ⟨_,rfl,by simp only;rw[Jb (by omega)],h0,(h1.mono (by omega)).set (by simp;omega) _⟩)
   (by
    rintro ⟨i,l0,l1,⟨⟩⟩ ⟨hi,h0,h1⟩;simp only at hi h0 h1;subst hi;simp only[Jl,Int.lt_irrefl,if_false];obtain ⟨r,hr1,r',rfl,hr2⟩:=Zgk (l:=Zj.Qg b) (ρ:=(Int×List Int×List (List Int)×Unit) ⊕ ((Int×Int×List Vq×Unit) ⊕ Z0)) (step:=λv=>Jk b (Zw (Zj.Design b)) l0 v.1 v.2.1 v.2.2.1 v.2.2.2.1 v.2.2.2.2.1) (v:=((0:Int),([]:List Int),([]:List (List Int)),c0,l1,()))
     (λk v=>v.1=(k:Int)/\v.2.1.length=k/\v.2.2.1.length=k/\v.2.2.2.1.length<=448+156*k/\Short v.2.2.2.2.1 (Zj.Qg b).length 78)
     (λr=>∃ r',r=.inr (.inr r')/\Z0.Zw r'=Zw (Zj.Design b)/\Z0.Block r'=b)
     ⟨rfl,rfl,rfl,by simp only;omega,h1.mono (by omega)⟩
     (by
      rintro k w ⟨i,c1,c2,c3,l2,⟨⟩⟩ hw hk ⟨hi,g1,g2,g3,g4⟩;simp only at hi g1 g2 g3 g4;subst hi;obtain ⟨nl,hnl,hnl2⟩:=Zi6 h hw;obtain ⟨ed,hed,hed2⟩:=Zk6 h hw;have hpar:=(h.ok.2.2 k w hw).1.1;have hn0:atI nl (0:Int)=some nl[0]:=(show nl[0]?=some nl[0] from List.getElem?_eq_getElem (by omega));obtain ⟨x1,hl2⟩:∃ x1,l2[k]?=some x1:=⟨_,List.getElem?_eq_getElem (by have:=g4.1;omega)⟩;have hx1:=g4.2 x1 (List.mem_of_getElem? hl2);simp only[Jk,show (k:Int)<((Zj.Qg b).length:Int) from by omega,if_true,hnl,hn0,hed,Bq,Zu,hl2];rw[Zd (by simp;omega),Zd (by simp;omega)];obtain ⟨r,hr1,r',rfl,hr2⟩:=Zgk (l:=x1) (ρ:=(Int×List Int×List (List Int)×List Vq×List (List Int)×Unit) ⊕ ((Int×List Int×List (List Int)×Unit) ⊕ ((Int×Int×List Vq×Unit) ⊕ Z0))) (step:=λv=>Jj l0 (k:Int) c1 c2 l2 nl[0] ed x1 v.1 v.2.1) (v:=((0:Int),c3,()))
       (λm v=>v.1=(m:Int)/\v.2.1.length=c3.length+2*m)
       (λr=>∃ r',r=.inl r'/\r'.1=((k+1:Nat):Int)/\r'.2.1.length=k+1/\r'.2.2.1.length=k+1/\r'.2.2.2.1.length<=448+156*(k+1)/\Short r'.2.2.2.2.1 (Zj.Qg b).length 78)
       ⟨rfl,rfl⟩
       (by
        rintro m y ⟨i,c4,⟨⟩⟩ hy hm ⟨hi,gc⟩;simp only at hi gc;subst hi;simp only[Jj,show (m:Int)<(x1.length:Int) from by omega,if_true,Zu,hy,Bq];have hl0:l0[k]?=some l0[k]:=List.getElem?_eq_getElem (by omega);generalize l0[k]=z at hl0;obtain ⟨r,hr1,r',rfl,hr2⟩:=JQ (step:=λv=>Ji l0 (k:Int) (m:Int) y v.1 v.2.1) 2 (λj v=>v.1=(j:Int)/\v.2.1.length=c4.length+j) (λr=>∃ r',r=.inl r'/\r'.1=((m+1:Nat):Int)/\r'.2.1.length=c4.length+2) (v:=((0:Int),c4,())) ⟨rfl,rfl⟩
         (by
          rintro j ⟨i,c5,⟨⟩⟩ hj ⟨hi,hc5⟩;simp only at hi hc5;subst hi;left;simp only[Ji,show (j:Int)<(2:Int) from by omega,if_true,Zu,hl0,Bq];rw[Zd (by simp;omega)];exact ⟨_,rfl,by simp only;rw[Jb (by omega)],by simp[hc5];omega⟩)
         (by
          rintro ⟨i,c5,⟨⟩⟩ ⟨hi,hc5⟩;simp only at hi hc5;subst hi;simp only[Ji,show ¬((2:Nat):Int)<(2:Int) from by omega,if_false];exact ⟨_,rfl,_,rfl,by simp only;rw[Jb (by omega)],hc5⟩)
        grind)
       (by
        rintro ⟨i,c4,⟨⟩⟩ ⟨hi,gc⟩;simp only at hi gc;subst hi;simp only[Jj,Int.lt_irrefl,if_false];exact ⟨_,rfl,_,rfl,by simp only;rw[Jb (by omega)],by simp[g1],by simp[g2],by simp only;omega,g4.set hx1 _⟩)
      grind)
     (by
      rintro ⟨i,c1,c2,c3,l2,⟨⟩⟩ ⟨hi,g1,g2,g3,g4⟩;simp only at hi;subst hi;simp only[Jk,Int.lt_irrefl,if_false];grind)
    grind)
  grind
def ZqS (e l:Int):Prop:=100<=e/\e<=l/\l<=5000
def ZdO (c:Zm):Prop:=QL (Zm.Name c)=true/\ZqS (Zm.Xq c) (Zm.Qn c)/\ZqS (Zm.XK c) (Zm.QG c)
theorem Zte {c:Zm} (h:sm Y6 c):(Zm.Name c).length<=4611686018427387904:=by
 refine ZdL ?_;first | exact h.1 | exact h.2.1
theorem Ziz (e l:Int):Jw e l=some (tr (ZqS e l)):=by
 unfold Jw ZqS;exact Xc (λ_=>Xc (λ_=>Zaf decide_eq_true_iff))
theorem Zkm (c:Zm):ZcV c=some (tr (ZdO c)):=by
 unfold ZcV;exact Yw (by rw[Zet];exact Zaf Iff.rfl) (λ_=>Yw (Ziz _ _) (λ_=>ZbP (Ziz _ _)))
theorem ZkE (c:Zm) (h:sm Y6 c):Zc5 c=some (tr (ZdO c)):=by
 unfold Zc5;rw[Qe (l:=[Zm.Xq c,Zm.Qn c,Zm.XK c,Zm.QG c]) (show List.length _<=_ by simp) (λ_ x=>(100:Int)<=x/\x<=5000) (bad:=false) (good:=tr (QL (Zm.Name c)=true/\Zm.Xq c<=Zm.Qn c/\Zm.XK c<=Zm.QG c))
  (λk x hx hk _=>by
   simp only[ZaQ,show (k:Int)<((List.length [Zm.Xq c,Zm.Qn c,Zm.XK c,Zm.QG c]:Nat):Int) from by omega,if_true,Zu,hx,Bq,Qr];constructor
   ·intro hh;rw[if_pos (Yf hh)]
   ·intro hh;rw[if_neg (λq=>hh ((QM _).1 q))])
  (λ_=>by
   simp only[ZaQ,Int.lt_irrefl,if_false,JJ _ (Zte h),Bq];by_cases a:QL (Zm.Name c)=true
   ·rw[if_pos a]
    by_cases b:Zm.Xq c<=Zm.Qn c
    ·rw[if_pos b]
     congr 2;exact (ZkJ (by grind)).symm
    ·rw[if_neg b,ZF (λq=>b q.2.1)]
   ·rw[if_neg a,ZF (λq=>a q.1)]),ZbA]
 congr 1;refine XJ ?_;rw[QW];simp only[List.mem_cons,List.not_mem_nil,or_false,forall_eq_or_imp,forall_eq];unfold ZdO ZqS;grind
def Zew (l:List Zm):Prop:=l.length<=4/\(∀ c∈l,ZdO c)/\X6 (l.map Zm.Name) l.length
theorem Zjj (l:List Zm) (h:sm (.sl Y6) l):ZbK l=some (tr (Zew l)):=by
 have hs:=Zv h;unfold ZbK;rw[Qe (Yt h) (λk c=>ZdO c/\∀ (j:Nat) (q:Zm),j<k->l[j]?=some q->Zm.Name q≠Zm.Name c) (bad:=false) (good:=tr (l.length<=4))
  (λk c hx hk _=>by
   simp only[JN,show (k:Int)<(l.length:Int) from by omega,if_true,Zu,hx,Bq,ZkE c (ZeM h hx)];by_cases hC:ZdO c
   ·rw[if_pos (Yf hC),Zh1 (f:=Zm.Name) (l:=l) (x:=c) (k:=k) (by omega) (by omega) (bad:=.inr false) (good:=.inl (Wq ((k:Int)+1),()))
     (λj y hj hy=>by
      simp only[JM,show (j:Int)<(k:Int) from by omega,if_true,Zu,hy,Bq];split<;>rfl)
     (by simp only[JM,Int.lt_irrefl,if_false])]
    constructor
    ·intro hh;rw[YS hh.2]
    ·intro hh;rw[YC (λq=>hh ⟨hC,q⟩)]
   ·rw[if_neg (by rw[ZF hC];simp)]
    exact ⟨λhh=>absurd hh.1 hC,λ_=>rfl⟩)
  (λ_=>by
   simp only[JN,Int.lt_irrefl,if_false];congr 2;exact (ZkJ (by rw[decide_eq_true_eq];omega)).symm)]
 rw[ZbA];congr 1;refine XJ ?_;unfold Zew;rw[ZlP,<-QW];constructor
 ·rintro ⟨q,q8⟩
  exact ⟨q8,λk x hx=>(q k x hx).1,λk x hx=>⟨(q k x hx).1.1,(q k x hx).2⟩⟩
 ·rintro ⟨q8,q1,q2⟩
  exact ⟨λk x hx=>⟨q1 k x hx,(q2 k x hx).2⟩,q8⟩
theorem Zhb (l:List Zm) (h:sm (.sl Y6) l) (h0:l.length≠0):J3 l=some (tr (Zew l)):=by
 have hs:=Zv h;unfold J3;have hlen:(l.map Zm.Name).length=l.length:=by simp
 have:=Zfh (l:=l) (ρ:=Bool) (λk=>((l.map Zm.Name).take k,(k:Int),())) (λ_ c=>ZdO c) (step:=λv=>Xt l v.1 v.2.1) (bad:=false) (good:=tr (l.length<=4/\X6 (l.map Zm.Name) l.length))
  (λk c hx hk _=>by
   have hn:(l.map Zm.Name)[k]?=some (Zm.Name c):=by simp[hx]
   simp only[Xt,show (k:Int)<(l.length:Int) from by omega,if_true,Zu,hx,Bq,Zkm c];rw[Zd (by simp only[List.length_take,List.length_singleton,List.length_map];omega),Yy hn,Jb (by omega)];constructor
   ·intro hh;rw[if_pos (Yf hh)]
   ·intro hh;rw[if_neg (by rw[ZF hh];simp)])
  (λhA=>by
   have e0:(l.map Zm.Name).take l.length=l.map Zm.Name:=by rw[<-hlen,List.take_length]
   simp only[Xt,Int.lt_irrefl,if_false,e0,show VH l=some (l.length:Int) from rfl,Bq,XB];by_cases h4:l.length<=4
   ·rw[if_pos (Yf (by omega)),Qd _ (by rw[hlen];omega),Bq,hlen]
    congr 2;exact XJ ⟨λq=>⟨h4,q⟩,λq=>q.2⟩
   ·rw[if_neg (λq=>h4 (by have:=(QM _).1 q;omega)),ZF (λq=>h4 q.1)])
 refine (show Zq (λv=>Xt l v.1 v.2.1) (([]:List (List UInt8)),(0:Int),())=_ from this).trans ?_;rw[ZbA];congr 1;refine XJ ?_;rw[QW];exact ⟨λq=>⟨q.2.1,q.1,q.2.2⟩,λq=>⟨q.2.1,q.1,q.2.2⟩⟩
def Zn3 (k v:Int):Prop:=(k=1/\v=0)\/(k=2/\1<=v/\v<=10)\/((k=3\/k=4)/\0<=v/\v<=1000000000)
def Zna (n:Nat) (l:List Int):Prop:=l.length<=4/\Zf0 l 0 ((n:Int)-1)
def Ziw (n:Nat) (e:Ze):Prop:=Zna n (Ze.From e)/\Zna n (Ze.Through e)/\Zna n (Ze.To e)/\Inc (Ze.From e)/\Inc (Ze.To e)/\Zn3 (Ze.Kind e) (Ze.Value e)
theorem ZuY {e:Ze} (h:sm Z4 e):sm (.sl (.int .i64)) (Ze.From e)/\sm (.sl (.int .i64)) (Ze.Through e)/\sm (.sl (.int .i64)) (Ze.To e):=by
 refine ⟨?_,?_,?_⟩;all_goals first | exact h.1 | exact h.2.1 | exact h.2.2.1 | exact h.2.2.2.1 | exact h.2.2.2.2.1
theorem Zlo (k v:Int):Zd2 k v=some (tr (Zn3 k v)):=by
 unfold Zd2 Zn3;simp only[XB,Bq];by_cases k1:k=1
 ·rw[if_pos k1];exact Zaf (by rw[decide_eq_true_eq];omega)
 rw[if_neg k1];by_cases k2:k=2
 ·rw[if_pos k2];congr 1;exact XJ (by omega)
 rw[if_neg k2];by_cases k3:k=3
 ·rw[if_pos k3,if_pos k3];congr 1;exact XJ (by omega)
 rw[if_neg k3];by_cases k4:k=4
 ·rw[if_pos k4];congr 1;exact XJ (by omega)
 ·rw[if_neg k4,ZF (by omega)]
theorem ZeC (v:Z0) (e:Ze) (h:sm Z4 e) (hn:(Z0.Zw v).length<=1048576):X8 v e=some (tr (Ziw (Z0.Zw v).length e)):=by
 obtain ⟨a1,a2,a3⟩:=ZuY h;have e1:Wq (((Z0.Zw v).length:Int)-1)=((Z0.Zw v).length:Int)-1:=Zar (by omega) (by omega);unfold X8;rw[Qe (l:=[Ze.From e,Ze.Through e,Ze.To e]) (show List.length _<=_ by simp) (λ_ x=>Zna (Z0.Zw v).length x) (bad:=false) (good:=tr (Zn3 (Ze.Kind e) (Ze.Value e)/\Inc (Ze.From e)/\Inc (Ze.To e)))
  (λk x hx hk _=>by
   have hxs:x.length<=1048576:=by
    have:=List.mem_of_getElem? hx;simp only[List.mem_cons,List.not_mem_nil,or_false] at this;rcases this with rfl | rfl | rfl
    ·exact Zv a1
    ·exact Zv a2
    ·exact Zv a3
   simp only[QD,show (k:Int)<((List.length [Ze.From e,Ze.Through e,Ze.To e]:Nat):Int) from by omega,if_true,Zu,hx,Bq,show XL (Z0.Zw v)=some ((Z0.Zw v).length:Int) from rfl,e1,ZdS x _ _ hxs];unfold Zna;by_cases h4:(4:Int)<(x.length:Int)
   ·rw[if_pos h4]
    exact ⟨λhh=>by omega,λ_=>rfl⟩
   ·rw[if_neg h4]
    constructor
    ·intro hh;rw[if_pos (Yf hh.2)]
    ·intro hh;rw[if_neg (λq=>hh ⟨by omega,(QM _).1 q⟩)])
  (λ_=>by
   simp only[QD,Int.lt_irrefl,if_false,Zlo,Bq,Zag _ (Yt (t:=.int .i64) a1),Zag _ (Yt (t:=.int .i64) a3)];by_cases q1:Zn3 (Ze.Kind e) (Ze.Value e)
   ·rw[if_pos (Yf q1)]
    by_cases q2:Inc (Ze.From e)
    ·rw[if_pos (Yf q2)]
     congr 2;exact XJ ⟨λq=>⟨q1,q2,q⟩,λq=>q.2.2⟩
    ·rw[if_neg (λq=>q2 ((QM _).1 q)),ZF (λq=>q2 q.2.1)]
   ·rw[if_neg (λq=>q1 ((QM _).1 q)),ZF (λq=>q1 q.1)]),ZbA]
 congr 1;refine XJ ?_;rw[QW];simp only[List.mem_cons,List.not_mem_nil,or_false,forall_eq_or_imp,forall_eq];unfold Ziw;exact ⟨λ⟨⟨q1,q2,q3⟩,q4,q5,q6⟩=>⟨q1,q2,q3,q5,q6,q4⟩,λ⟨q1,q2,q3,q5,q6,q4⟩=>⟨⟨q1,q2,q3⟩,q4,q5,q6⟩⟩
theorem ZuM {l:List Int}:Inc l<->ZdM l (λk x=>∀ y,0<k->l[k-1]?=some y->y<x):=by
 constructor
 ·intro h k x hx y hk hy
  exact h (k-1) y x hy (by rw[show k-1+1=k by omega];exact hx)
 ·intro h k x y hx hy
  exact h (k+1) y hy x (by omega) hx
theorem Zb6 (b:Zj) (hf:Few (Zj.Design b)) (l:List Int) (srt:Bool) (h:sm (.sl (.int .i64)) l):Ja b l srt=some (tr (Zna (Zw (Zj.Design b)).length l/\(srt=true->Inc l))):=by
 have hs:=Zv h;have hpl:=V9 hf;have e1:Wq (((Zw (Zj.Design b)).length:Int)-1)=((Zw (Zj.Design b)).length:Int)-1:=Zar (by omega) (by omega);have hcnt:Zda b=some ((Zw (Zj.Design b)).length:Int):=by unfold Zda;rw[QA _ hf];rfl
 unfold Ja;rw[Qe (Yt h) (λk x=>(0<=x/\x<=((Zw (Zj.Design b)).length:Int)-1)/\(srt=true->∀ y,0<k->l[k-1]?=some y->y<x)) (bad:=false) (good:=tr (l.length<=4))
  (λk x hx hk _=>by
   simp only[Zaq,show (k:Int)<(l.length:Int) from by omega,if_true,Zu,hx,Bq,hcnt,Qr,e1];by_cases hb:0<=x/\x<=((Zw (Zj.Design b)).length:Int)-1
   ·rw[if_pos (Yf hb)]
    cases srt
    ·simp only[Bool.false_eq_true,if_false]
     exact ⟨λ_=>trivial,λhh=>absurd ⟨hb,λq=>by cases q⟩ hh⟩
    ·simp only[if_true]
     by_cases h0:(0:Int)<(k:Int)
     ·obtain ⟨y,hy⟩:∃ y,l[k-1]?=some y:=⟨_,List.getElem?_eq_getElem (by omega)⟩
      rw[if_pos h0,Zj5 (by omega) (by omega),Zu,hy,Bq];constructor
      ·intro hh
       rw[if_neg];have:=hh.2 trivial y (by omega) rfl;omega
      ·intro hh
       rw[if_pos];apply Classical.byContradiction;intro hlt;refine hh ⟨hb,λ_ y' _ hy'=>?_⟩;injection hy' with hy'
       have:¬x<=y:=hlt;omega
     ·rw[if_neg h0]
      exact ⟨λ_=>rfl,λhh=>absurd ⟨hb,λ_ y hk0=>by omega⟩ hh⟩
   ·rw[if_neg (λq=>hb ((QM _).1 q))]
    exact ⟨λhh=>absurd hh.1 hb,λ_=>rfl⟩)
  (λ_=>by
   simp only[Zaq,Int.lt_irrefl,if_false];congr 2;exact (ZkJ (by rw[decide_eq_true_eq];omega)).symm),ZbA]
 congr 1;refine XJ ?_;unfold Zna;rw[ZuM];constructor
 ·rintro ⟨q1,q2⟩
  exact ⟨⟨q2,QW.1 (λk x hx=>(q1 k x hx).1)⟩,λhs k x hx=>(q1 k x hx).2 hs⟩
 ·rintro ⟨⟨q2,q1⟩,q3⟩
  exact ⟨λk x hx=>⟨q1 x (List.mem_of_getElem? hx),λhs=>q3 hs k x hx⟩,q2⟩
theorem ZaU (b:Zj) (h:ZdN b) (e:Ze) (he:sm Z4 e):V5 b e=some (tr (Ziw (Zw (Zj.Design b)).length e)):=by
 obtain ⟨a1,a2,a3⟩:=ZuY he;have hf:=h.ok.1.few;unfold V5;rw[Zgs b h.sm,Bq,if_pos (Yf h.ok)];refine ZcH (Yw (Zb6 b hf _ _ a1) (λ_=>Yw (Zb6 b hf _ _ a2) (λ_=>Yw (Zb6 b hf _ _ a3) (λ_=>(?_:_=some (tr (Zn3 (Ze.Kind e) (Ze.Value e)))))))) ?_
 ·unfold Zn3
  simp only[Qr,Bq];by_cases k1:Ze.Kind e=1
  ·rw[if_pos k1];exact Zaf (by rw[decide_eq_true_eq];omega)
  rw[if_neg k1];by_cases k2:Ze.Kind e=2
  ·rw[if_pos k2];congr 1;exact XJ (by omega)
  rw[if_neg k2];by_cases k3:Ze.Kind e=3
  ·rw[if_pos k3,if_pos k3];congr 1;exact XJ (by omega)
  rw[if_neg k3];by_cases k4:Ze.Kind e=4
  ·rw[if_pos k4];congr 1;exact XJ (by omega)
  ·rw[if_neg k4,ZF (by omega)]
 ·unfold Ziw
  constructor
  ·rintro ⟨⟨q1,q2⟩,⟨q3,_⟩,⟨q4,q5⟩,q6⟩;exact ⟨q1,q3,q4,q2 rfl,q5 rfl,q6⟩
  ·rintro ⟨q1,q3,q4,q2,q5,q6⟩;exact ⟨⟨q1,λ_=>q2⟩,⟨q3,λq=>by cases q⟩,⟨q4,λ_=>q5⟩,q6⟩
def Zey (s:Yb):Prop:=0<=Yb.Early s/\Yb.Early s<=Yb.Late s/\Yb.Late s<=1000000
theorem ZaF (s:Yb):ZbI s=some (tr (Zey s)):=by
 unfold ZbI Zey;exact Xc (λ_=>Xc (λ_=>Zaf decide_eq_true_iff))
def ZkW (s:Yb):Prop:=(-1000000000<=Yb.Early s/\Yb.Early s<=1000000000)/\(-1000000000<=Yb.Late s/\Yb.Late s<=1000000000)/\Yb.Early s<=Yb.Late s
theorem Zau (s:Yb):ZbR s=some (tr (ZkW s)):=by
 unfold ZbR ZkW Ze3;exact Yw (ZbP (XB _ _ _)) (λ_=>Yw (ZbP (XB _ _ _)) (λ_=>Zaf decide_eq_true_iff))
theorem ZfG (s:Yb):Zbn s=some (tr (Zey s)):=by
 unfold Zbn Ze2;refine ZcH (Yw (Zau s) (λ_=>Yw (ZbP (XB _ _ _)) (λ_=>ZbP (ZbP (XB _ _ _))))) ?_;unfold Zey ZkW;omega
structure Wv where
 period:Int
 rise:Int
 fall:Int
def Ztp (c:Zc) (w:Wv):Wv :=
 let w1:Wv:=if 1<Zc.Divide c then ⟨Wq (Zc.Divide c*w.period),w.rise,Wq (w.rise+Wq (Wq ((Zc.Divide c).tdiv 2)*w.period))⟩ else w
 if Zc.Zex c=true then ⟨w1.period,w1.fall,w1.rise⟩ else w1
def ZqL (l:List Zc):Nat->Int->Wv
 | 0,_=>⟨0,0,0⟩
 | n+1,k=>match l[k.toNat]? with
  | none=>⟨0,0,0⟩
  | some c=>if Zc.Source c<0 then ⟨Zc.VQ c,Zc.Zae c,Zc.Zad c⟩ else Ztp c (ZqL l n (Zc.Source c))
def Zjm (l:List Zc) (k:Int):Wv:=ZqL l (k.toNat+1) k
def ZqU (l:List Zc) (m:Int):Prop:=∀ (j:Nat) (c:Zc),(j:Int)<m->l[j]?=some c->Zc.Source c<(j:Int)
theorem Zj3 (l:List Zc):∀ (n:Nat) (k:Int),0<=k->k<n->ZqU l (k+1)->ZqL l n k=Zjm l k
 | 0,k,h0,h1,_=>by omega
 | n+1,k,h0,h1,hs=>by
  unfold Zjm;simp only[ZqL];cases hc:l[k.toNat]? with
  | none=>rfl
  | some c =>
   simp only;split
   ·rfl
   ·rename_i hsrc
    have hlt:=hs k.toNat c (by omega) hc;have hs':ZqU l (Zc.Source c+1):=λj c' hj hc'=>hs j c' (by omega) hc';have e1:=Zj3 l n (Zc.Source c) (by omega) (by omega) hs';rw[e1];have:∀ m:Nat,Zc.Source c<m->m<n+1->ZqL l m (Zc.Source c)=Zjm l (Zc.Source c):=λm hm hmn=>Zj3 l m (Zc.Source c) (by omega) hm hs';by_cases hk:k.toNat<n+1/\Zc.Source c<(k.toNat:Int)
    ·rw[this k.toNat hk.2 hk.1]
    ·omega
 termination_by n=>n
theorem Zsg (l:List Zc) (k:Int) (h0:0<=k) (c:Zc) (hc:l[k.toNat]?=some c) (hs:ZqU l (k+1)) :
  Zjm l k=if Zc.Source c<0 then ⟨Zc.VQ c,Zc.Zae c,Zc.Zad c⟩ else Ztp c (Zjm l (Zc.Source c)):=by
 unfold Zjm;rw[ZqL,hc];simp only;split
 ·rfl
 ·rename_i hsrc
  have hlt:=hs k.toNat c (by omega) hc;rw[Zj3 l k.toNat (Zc.Source c) (by omega) hlt (λj c' hj hc'=>hs j c' (by omega) hc')];rfl
def wvI (w:Wv):Zct:=(w.period,(w.rise,w.fall,()),())
def wvS (w:Wv):YW:=(w.period,w.rise,w.fall,())
def ZrQ (l:List Zc) (k:Int):Prop:=0<=k/\k<l.length/\ZqU l (k+1)
theorem ZcI (l:List Zc):∀ (n:Nat) (k:Int),ZrQ l k->(∀ r,VI n l k=some r->r=wvI (Zjm l k))/\(k<n->VI n l k=some (wvI (Zjm l k)))
 | 0,k,hp=>⟨λr h=>by simp[VI] at h,λh=>by have:=hp.1;omega⟩
 | n+1,k,hp=>by
  obtain ⟨h0,h1,h2⟩:=hp;obtain ⟨c,hc,hc'⟩:=ZmO h0 h1;have hw:=Zsg l k h0 c hc' h2;simp only[VI,VU,hc,Bq];split
  ·rename_i hs
   rw[if_pos hs] at hw;rw[hw];exact ⟨λr h=>by injection h with h;exact h.symm,λ_=>rfl⟩
  ·rename_i hs
   rw[if_neg hs] at hw;have hlt:=h2 k.toNat c (by omega) hc';have ih:=ZcI l n (Zc.Source c) ⟨by omega,by omega,λj d hj hd=>h2 j d (by omega) hd⟩;have fin:∀ o:Option Zct,(∀ r,o=some r->r=wvI (Zjm l (Zc.Source c)))->∀ F:Zct->Option Zct,F (wvI (Zjm l (Zc.Source c)))=some (wvI (Zjm l k))->(∀ r,o.bind F=some r->r=wvI (Zjm l k))/\(o≠none->o.bind F=some (wvI (Zjm l k))):=by
    intro o ho F hF;cases o with
    | none=>exact ⟨λr h=>(by cases h),λh=>absurd rfl h⟩
    | some x =>
     have:=ho x rfl;subst this;rw[Bq,hF];exact ⟨λr h=>by injection h with h;exact h.symm,λ_=>rfl⟩
   refine And.imp_right (λh2 hk=>h2 (by rw[ih.2 (by omega)];simp)) (fin _ ih.1 _ ?_);rw[hw];simp only[Ztp,wvI];split<;>split<;>simp[*]
theorem Zml {l:List Zc} {k:Int} (hp:ZrQ l k):Ze4 l k=some (wvI (Zjm l k)) :=
 ZnG ⟨k.toNat+1,(ZcI l _ k hp).2 (by have:=hp.1;omega)⟩ (λn r h=>(ZcI l n k hp).1 r h)
theorem ZdK (l:List Zc):∀ (n:Nat) (k:Int),ZrQ l k->(∀ r,JL n l k=some r->r=wvS (Zjm l k))/\(k<n->JL n l k=some (wvS (Zjm l k)))
 | 0,k,hp=>⟨λr h=>by simp[JL] at h,λh=>by have:=hp.1;omega⟩
 | n+1,k,hp=>by
  obtain ⟨h0,h1,h2⟩:=hp;obtain ⟨c,hc,hc'⟩:=ZmO h0 h1;have hw:=Zsg l k h0 c hc' h2;simp only[JL,JK,hc,Bq];split
  ·rename_i hs
   rw[if_pos hs] at hw;rw[hw];exact ⟨λr h=>by injection h with h;exact h.symm,λ_=>rfl⟩
  ·rename_i hs
   rw[if_neg hs] at hw;have hlt:=h2 k.toNat c (by omega) hc';have ih:=ZdK l n (Zc.Source c) ⟨by omega,by omega,λj d hj hd=>h2 j d (by omega) hd⟩;have fin:∀ o:Option YW,(∀ r,o=some r->r=wvS (Zjm l (Zc.Source c)))->∀ F:YW->Option YW,F (wvS (Zjm l (Zc.Source c)))=some (wvS (Zjm l k))->(∀ r,o.bind F=some r->r=wvS (Zjm l k))/\(o≠none->o.bind F=some (wvS (Zjm l k))):=by
    intro o ho F hF;cases o with
    | none=>exact ⟨λr h=>(by cases h),λh=>absurd rfl h⟩
    | some x =>
     have:=ho x rfl;subst this;rw[Bq,hF];exact ⟨λr h=>by injection h with h;exact h.symm,λ_=>rfl⟩
   refine And.imp_right (λh2 hk=>h2 (by rw[ih.2 (by omega)];simp)) (fin _ ih.1 _ ?_);rw[hw];simp only[Ztp,wvS];split<;>split<;>simp[*,Int.mul_comm]
theorem ZnN {l:List Zc} {k:Int} (hp:ZrQ l k):ZgJ l k=some (wvS (Zjm l k)) :=
 ZnG ⟨k.toNat+1,(ZdK l _ k hp).2 (by have:=hp.1;omega)⟩ (λn r h=>(ZdK l n k hp).1 r h)
def Zgn (c:Zc):Bool:=decide (0<=Zc.Place c)&&decide (0<=Zc.Yn c)&&decide (Zc.Yn c<=Zc.YK c)&&decide (Zc.YK c<=100000)&&within (Zc.Y8 c) 0 100000
def Zi8 (c:Zc):Bool:=within (Zc.VQ c) 2 100000&&within (Zc.Zae c) 0 (Wq (Zc.VQ c-1))&&within (Zc.Zad c) 0 (Wq (Zc.VQ c-1))&&decide (Zc.Zae c≠Zc.Zad c)&&decide (Zc.Divide c=1)&&!Zc.Zex c
def ZsG (l:List Zc) (k:Int) (c:Zc):Bool:=within (Zc.Source c) 0 (Wq (k-1))&&within (Zc.Divide c) 1 8&&decide (Zc.VQ c=0)&&decide (Zc.Zae c=0)&&decide (Zc.Zad c=0)&&decide ((Zjm l k).period<=100000)
def Zdm (l:List Zc) (k:Int) (c:Zc):Bool:=Zgn c&&(if Zc.Source c=-1 then Zi8 c else ZsG l k c)
theorem Zjw (c:Zc):Vl c=some (Zi8 c):=by
 unfold Vl;simp only[Qu,Bq];repeat' split
 all_goals simp[Zi8, *]
theorem Zji (c:Zc):ZbJ c=some (Zi8 c):=by
 unfold ZbJ;simp only[Q9,Bq];repeat' split
 all_goals simp[Zi8, *]
theorem Zs2 (c:Zc):Zgn c=(decide (0<=Zc.Place c)&&within (Zc.Yn c) 0 100000&&within (Zc.YK c) (Zc.Yn c) 100000&&within (Zc.Y8 c) 0 100000):=by
 rw[Bool.eq_iff_iff];simp only[Zgn,within,Bool.and_eq_true,decide_eq_true_eq];omega
theorem ZkI (c:Zc) (hl:(Zc.Name c).length<=4611686018427387904):Zc9 c=some (QL (Zc.Name c)&&Zgn c):=by
 unfold Zc9;rw[JJ _ hl,Zs2];simp only[Q9,Bq];repeat' split
 all_goals simp[*]
def Zn0 (l:List Zc) (m:Int):Prop:=∀ (j:Nat) (c:Zc),(j:Int)<m->l[j]?=some c->Zdm l j c=true
theorem Zk1 {l:List Zc} {k:Nat} {c:Zc} (h:Zdm l k c=true) (hk:(k:Int)<=1000000):Zc.Source c=-1\/0<=Zc.Source c/\Zc.Source c<k:=by
 unfold Zdm at h;simp only[Bool.and_eq_true] at h;split at h
 ·exact .inl (by assumption)
 ·have h2:=h.2
  unfold ZsG at h2;simp only[within,Bool.and_eq_true,decide_eq_true_eq] at h2;rw[Zar (by omega) (by omega)] at h2;omega
theorem Zn0.src {l:List Zc} {m:Int} (h:Zn0 l m) (hm:m<=1000000):ZqU l m:=by
 intro j c hj hc;have:=Zk1 (h j c hj hc) (by omega);omega
theorem ZmR {l:List Zc} {k:Int} {c:Zc} (h0:0<=k) (h1:k<l.length) (hk:k<=1000) (h:Zn0 l k) (hc:l[k.toNat]?=some c) (hs:Zc.Source c<k):ZrQ l k:=by
 refine ⟨h0,h1,λj d hj hd=>?_⟩;by_cases hjk:(j:Int)<k
 ·exact h.src (by omega) j d hjk hd
 ·have:j=k.toNat:=by omega
  subst this;rw[hc] at hd;injection hd with hd;subst hd
  omega
theorem Zm4 {s k:Int} (hk0:0<=k) (hk:k<=1000) (h:within s 0 (Wq (k-1))=true):0<=s/\s<k:=by
 rw[Y7,Zar (by omega) (by omega)] at h;omega
theorem Zqi (l:List Zc) (k:Int) (c:Zc):Zdm l k c=(decide (0<=Zc.Place c)&&decide (0<=Zc.Yn c)&&decide (Zc.Yn c<=Zc.YK c)&&decide (Zc.YK c<=100000)&&within (Zc.Y8 c) 0 100000 &&
  (if Zc.Source c=-1 then Zi8 c else within (Zc.Source c) 0 (Wq (k-1))&&within (Zc.Divide c) 1 8&&decide (Zc.VQ c=0)&&decide (Zc.Zae c=0)&&decide (Zc.Zad c=0)&&decide ((Zjm l k).period<=100000))):=rfl
theorem Zlm {l:List Zc} {k:Int} {c:Zc} (h0:0<=k) (h1:k<l.length) (hk:k<=1000) (h:Zn0 l k) (hc:l[k.toNat]?=some c):Zd1 l k=some (Zdm l k c):=by
 have hw:within (Zc.Source c) 0 (Wq (k-1))=true->Ze4 l k=some (wvI (Zjm l k)):=λhh=>Zml (ZmR h0 h1 hk h hc (Zm4 h0 hk hh).2);unfold Zd1;rw[Zbc h0 hc,Zqi];clear h0 h1 hk h hc;simp only[Qu,Bq,Zjw];generalize Zi8 c=pr;generalize Zc.Place c=v1 at *;generalize Zc.Yn c=v2 at *;generalize Zc.YK c=v3 at *;generalize Zc.Y8 c=v4 at *;generalize Zc.Source c=v5 at *;generalize Zc.Divide c=v6 at *;generalize Zc.VQ c=v7 at *;generalize Zc.Zae c=v8 at *;generalize Zc.Zad c=v9 at *;by_cases a1:v1<0
 ·have:¬0<=v1:=by omega
  simp[a1,this]
 by_cases a2:v2<0
 ·have:¬0<=v2:=by omega
  simp[a1,a2,this]
 by_cases a3:v3<v2
 ·have:¬v2<=v3:=by omega
  simp[a1,a2,a3,this]
 by_cases a4:100000<v3
 ·have:¬v3<=100000:=by omega
  simp[a1,a2,a3,a4,this]
 rw[if_neg a1,if_neg a2,if_neg a3,if_neg a4,decide_eq_true (show 0<=v1 by omega),decide_eq_true (show 0<=v2 by omega),decide_eq_true (show v2<=v3 by omega),decide_eq_true (show v3<=100000 by omega)];cases within v4 0 100000
 ·simp
 simp only[if_true,Bool.true_and];by_cases a5:v5=-1
 ·rw[if_pos a5,if_pos a5]
 rw[if_neg a5,if_neg a5];cases hw5:within v5 0 (Wq (k-1))
 ·simp
 rw[hw hw5];simp only[if_true,Bool.true_and];cases within v6 1 8
 ·simp
 by_cases a7:v7=0
 ·by_cases a8:v8=0
  ·by_cases a9:v9=0
   ·simp[a7,a8,a9,wvI]
   ·simp[a7,a8,a9]
  ·simp[a7,a8]
 ·simp[a7]
def ZfD (l:List Zc):List (List UInt8):=l.map Zc.Name
def ZcS (l:List Zc):Prop:=l.length<=6/\Zn0 l l.length/\X6 (ZfD l) l.length
theorem Zkl (l:List Zc):ZcU l=some (tr (ZcS l)):=by
 unfold ZcU;split
 ·rename_i h
  rw[ZF];intro hh;have:=hh.1;omega
 ·rename_i h6
  refine Yr l.length (λk v=>v.2.1=(k:Int)/\v.1=ZfD (l.take k)/\Zn0 l k) _ ⟨rfl,rfl,λj s hj=>by omega⟩ ?_ ?_
  ·rintro k ⟨ns,i,⟨⟩⟩ hk ⟨hi,hns,hS⟩
   simp only at hi hns;subst hi;have hx:l[k]?=some l[k]:=List.getElem?_eq_getElem hk;generalize l[k]=x at hx;simp only[ZaJ,Zu,hx,Bq,show (k:Int)<(l.length:Int) from by omega,if_true,Zar (show (-9223372036854775808:Int)<=(k:Int)+1 by omega) (by omega)];rw[Zlm (by omega) (by omega) (by omega) hS (by simpa using hx),Bq];split
   ·rename_i hok
    have hlen:ns.length=k:=by rw[hns];simp[ZfD];omega
    rw[Zd (by simp only[List.length_singleton];omega)];refine .inl ⟨_,rfl,by simp,by rw[hns,Yy hx];simp[ZfD],λj d hj hd=>?_⟩;by_cases e:(j:Int)<k
    ·exact hS j d e hd
    ·have:j=k:=by omega
     subst this;rw[hx] at hd;injection hd with hd;subst hd
     exact hok
   ·rename_i hok
    right;rw[ZF];intro hh;exact hok (hh.2.1 k x (by omega) hx)
  ·rintro ⟨ns,i,⟨⟩⟩ ⟨hi,hns,hS⟩
   simp only at hi hns;subst hi;rw[List.take_length] at hns;have hlen:(ZfD l).length=l.length:=by simp[ZfD]
   subst hns;simp only[ZaJ,Int.lt_irrefl,if_false];rw[Qd _ (by omega),Bq,hlen];congr 2;by_cases hN:X6 (ZfD l) l.length
   ·rw[Yf hN,Yf ⟨by omega,hS,hN⟩]
   ·rw[ZF hN,ZF (λhh=>hN hh.2.2)]
def ZtA (l:List Zc):Prop:=∀ c∈l,(Zc.Name c).length<=4611686018427387904
theorem ZgB {l:List Zc} {k:Nat} {c:Zc} (h:l[k]?=some c):(ZfD l)[k]?=some (Zc.Name c):=by simp[ZfD,h]
theorem Ziq {l:List Zc} {k:Nat} {c:Zc} (hk:k<l.length) (h6:l.length<=6) (hc:l[k]?=some c) (hpre:Zn0 l k) (hpl:Zgn c=true) :
  Zq (λv=>VK l (k:Int) c v.1) ((0:Int),()) =
   some (if Zc.Name c∈(ZfD l).take k then .inr false else if Zdm l k c=true then .inl ((k:Int)+1,()) else .inr false):=by
 refine Yr k (λm v=>v.1=(m:Int)/\Zc.Name c ∉ (ZfD l).take m) _ ⟨rfl,by simp⟩ ?_ ?_
 ·rintro m ⟨i,⟨⟩⟩ hm ⟨hi,hn⟩
  simp only at hi;subst hi;have hx:l[m]?=some l[m]:=List.getElem?_eq_getElem (by omega);generalize l[m]=x at hx;have hxn:=ZgB hx;simp only[VK,Zu,hx,Bq,show (m:Int)<(k:Int) from by omega,if_true,Zar (show (-9223372036854775808:Int)<=(m:Int)+1 by omega) (by omega)];split
  ·rename_i e
   right;rw[if_pos];rw[<-e];refine List.mem_iff_getElem?.2 ⟨m,?_⟩;rw[List.getElem?_take,if_pos hm,hxn]
  ·rename_i e
   refine .inl ⟨_,rfl,by simp,?_⟩;rw[Yy hxn];simp only[List.mem_append,List.mem_singleton,not_or];exact ⟨hn,λh=>e h.symm⟩
 ·rintro ⟨i,⟨⟩⟩ ⟨hi,hn⟩
  simp only at hi;subst hi;have hw:within (Zc.Source c) 0 (Wq ((k:Int)-1))=true->ZgJ l k=some (wvS (Zjm l k)):=λhh =>
   ZnN (ZmR (by omega) (by omega) (by omega) hpre (by simpa using hc) (Zm4 (by omega) (by omega) hh).2)
  rw[if_neg hn];simp only[VK,Int.lt_irrefl,if_false,Zji,Q9,Bq,Zar (show (-9223372036854775808:Int)<=(k:Int)+1 by omega) (by omega)];have e:Zdm l k c=(Zgn c&&_):=rfl;rw[e,hpl,Bool.true_and];by_cases a1:Zc.Source c=-1
  ·rw[if_pos a1,if_pos a1]
   cases Zi8 c<;>simp
  rw[if_neg a1,if_neg a1];unfold ZsG;cases hw5:within (Zc.Source c) 0 (Wq ((k:Int)-1))
  ·simp
  rw[hw hw5];simp only[if_true,Bool.true_and,Bq];cases within (Zc.Divide c) 1 8
  ·simp
  by_cases a7:Zc.VQ c=0
  ·by_cases a8:Zc.Zae c=0
   ·by_cases a9:Zc.Zad c=0
    ·by_cases a10:100000<(Zjm l k).period
     ·have:¬(Zjm l k).period<=100000:=by omega
      simp[a7,a8,a9,wvS,a10,this]
     ·have:(Zjm l k).period<=100000:=by omega
      simp[a7,a8,a9,wvS,a10,this]
    ·simp[a7,a8,a9]
   ·simp[a7,a8]
  ·simp[a7]
theorem ZkD (l:List Zc) (hn:ZtA l) (hl:l.length<=4611686018427387904):Zc4 l=some (tr (ZcS l)):=by
 unfold Zc4;refine Yr l.length (λk v=>v.1=(k:Int)/\(0<k->l.length<=6)/\Zn0 l k/\X6 (ZfD l) k) _ ⟨rfl,by omega,λj s hj=>by omega,λj s hj=>by omega⟩ ?_ ?_
 ·rintro k ⟨i,⟨⟩⟩ hk ⟨hi,_,hS,hN⟩
  simp only at hi;subst hi;have hx:l[k]?=some l[k]:=List.getElem?_eq_getElem hk;generalize l[k]=x at hx;simp only[ZaP,Zu,hx,Bq,show (k:Int)<(l.length:Int) from by omega,if_true];split
  ·rename_i h6
   have h6':l.length<=6:=by omega
   rw[ZkI _ (hn x (List.mem_of_getElem? hx)),Bq];split
   ·rename_i hp
    simp only[Bool.and_eq_true] at hp;rw[Ziq hk h6' hx hS hp.2];split
    ·rename_i hm
     right;rw[ZF];exact λhh=>(hh.2.2 k (Zc.Name x) hk (ZgB hx)).2 hm
    ·rename_i hm
     split
     ·rename_i hok
      refine .inl ⟨_,rfl,by simp,λ_=>h6',λj d hj hd=>?_,λj s hj hs=>?_⟩
      ·by_cases e:(j:Int)<k
       ·exact hS j d e hd
       ·have:j=k:=by omega
        subst this;rw[hx] at hd;injection hd with hd;subst hd
        exact hok
      ·by_cases e:j<k
       ·exact hN j s e hs
       ·have:j=k:=by omega
        subst this;rw[ZgB hx] at hs;injection hs with hs;subst hs
        exact ⟨hp.1,hm⟩
     ·rename_i hok
      right;rw[ZF];exact λhh=>hok (hh.2.1 k x (by omega) hx)
   ·rename_i hp
    right;rw[ZF];intro hh;have h1:=(hh.2.2 k (Zc.Name x) hk (ZgB hx)).1;have h2:=hh.2.1 k x (by omega) hx;unfold Zdm at h2;simp only[Bool.and_eq_true] at h2;exact hp (by rw[h1,h2.1];rfl)
  ·rename_i h6
   right;rw[ZF (λhh=>h6 (by have:=hh.1;omega))];simp[h6]
 ·rintro ⟨i,⟨⟩⟩ ⟨hi,_,hS,hN⟩
  simp only at hi;subst hi;simp only[ZaP,Int.lt_irrefl,if_false];by_cases h6:(l.length:Int)<=6
  ·rw[Yf ⟨by omega,hS,hN⟩,decide_eq_true h6]
  ·rw[ZF (λhh=>h6 (by have:=hh.1;omega)),decide_eq_false h6]
theorem ZqP {ρ:Type} {P Q:Prop} {_:Decidable P} {m:Option ρ} {a b:ρ} (hm:P->m=some (sel Q a b)):(if P then m else some b)=some (sel (P/\Q) a b):=by
 by_cases h:P
 ·rw[if_pos h,hm h]
  by_cases q:Q
  ·rw[YS q,YS ⟨h,q⟩]
  ·rw[YC q,YC (λx=>q x.2)]
 ·rw[if_neg h,YC (λq=>h q.1)]
theorem ZhG {ρ:Type} {P Q:Prop} {_:Decidable P} {m:Option ρ} {a b:ρ} (hm:¬P->m=some (sel Q a b)):(if P then some b else m)=some (sel (¬P/\Q) a b):=by
 by_cases h:P
 ·rw[if_pos h,YC (λq=>q.1 h)]
 ·rw[if_neg h,hm h]
  by_cases q:Q
  ·rw[YS q,YS ⟨h,q⟩]
  ·rw[YC q,YC (λx=>q x.2)]
theorem ZeL {ρ:Type} {P Q:Prop} {c:Option Bool} {m:Option ρ} {a b:ρ} (h:c=some (tr P)) (hm:P->m=some (sel Q a b)):(c.bind λx=>if x=true then m else some b)=some (sel (P/\Q) a b):=by
 rw[h,Bq];by_cases hp:P
 ·rw[if_pos (Yf hp),hm hp]
  by_cases q:Q
  ·rw[YS q,YS ⟨hp,q⟩]
  ·rw[YC q,YC (λx=>q x.2)]
 ·rw[if_neg (by rw[ZF hp];simp),YC (λq=>hp q.1)]
theorem ZtB {ρ:Type} {a b:ρ}:some a=some (sel True a b):=by rw[YS trivial]
theorem ZhF {ρ:Type} {m:Option ρ} {P Q:Prop} {a b:ρ} (h:m=some (sel P a b)) (hpq:P<->Q):m=some (sel Q a b):=by rw[h,propext hpq]
theorem Zp5 {ρ:Type} {m:Option ρ} {P:Prop} {a b:ρ} (h:m=some (sel P a b)):(P->m=some a)/\(¬P->m=some b):=⟨λq=>by rw[h,YS q],λq=>by rw[h,YC q]⟩
def Zm9 (s:Yb):Prop:=Yb.Early s<=Yb.Late s/\-100000<=Yb.Early s/\Yb.Late s<=100000
def ZtF (pl:List Pl) (drv:Bool) (i:Int):Prop:=∃ p,atI pl i=some p/\p.1<0/\p.2.2.2.1=drv
def Zf1 (pl:List Pl) (nc:Int) (drv:Bool) (l:List Zh) (k:Nat) (x:Zh):Prop :=
 (0<=Zh.Place x/\Zh.Place x<=(pl.length:Int)-1)/\ZtF pl drv (Zh.Place x)/\(∀ y,0<k->l[k-1]?=some y->Zh.Place y<Zh.Place x)/\
 (0<=Zh.Clock x/\Zh.Clock x<=nc-1)/\Zm9 (Zh.Delay x)/\Zey (Zh.Za2 x)/\(drv=false->Yb.Early (Zh.Za2 x)=0/\Yb.Late (Zh.Za2 x)=0)
def ZfB (pl:List Pl) (nc:Int) (drv:Bool) (l:List Zh):Prop:=ZdM l (Zf1 pl nc drv l)
theorem Zgg (v:Z0) (i:Int) (hn:(Z0.Zw v).length<=1048576):Qz v i=some (tr (0<=i/\i<=((Z0.Zw v).length:Int)-1)):=by
 unfold Qz;rw[show XL (Z0.Zw v)=some ((Z0.Zw v).length:Int) from rfl,Bq,Zar (by omega) (by omega)];exact ZbP (XB _ _ _)
theorem ZkU {s:Yb}:(Decidable.decide (Yb.Early s=(0:Int))&&Decidable.decide (Yb.Late s=(0:Int)))=true<->Yb.Early s=0/\Yb.Late s=0:=by simp
theorem ZcC {pl:List Pl} {drv:Bool} {i:Int} {p:Pl} (h:atI pl i=some p):ZtF pl drv i<->¬(0:Int)<=p.1/\(p.2.2.2.1 == drv)=true:=by
 unfold ZtF;rw[h,beq_iff_eq];constructor
 ·rintro ⟨q,q1,q2,q3⟩
  injection q1 with q1
  subst q1;exact ⟨by omega,q3⟩
 ·rintro ⟨q1,q2⟩
  exact ⟨p,rfl,by omega,q2⟩
theorem Zgz {l:List Zh} {k:Nat} {x y:Zh} (hk:0<k) (hy:l[k-1]?=some y):(∀ y,0<k->l[k-1]?=some y->Zh.Place y<Zh.Place x)<->¬Zh.Place x<=Zh.Place y:=by
 constructor
 ·intro h
  have:=h y hk hy;omega
 ·intro h z _ hz
  rw[hy] at hz;injection hz with hz
  subst hz;omega
theorem ZeT {l:List Zh} {k:Nat} {x:Zh} (hk:¬0<k):(∀ y,0<k->l[k-1]?=some y->Zh.Place y<Zh.Place x)<->True:=⟨λ_=>trivial,λ_ y h=>absurd h hk⟩
theorem ZcO (v:Z0) (l:List Zh) (drv:Bool) (nc:Int) (h:sm (.sl Yx) l) (hn:(Z0.Zw v).length<=1048576) (h0:0<=nc) (h1:nc<=1048576):XM v l drv nc=some (tr (ZfB (Z0.Zw v) nc drv l)):=by
 have hs:=Zv h;have e1:Wq (nc-1)=nc-1:=Zar (by omega) (by omega);unfold XM;rw[Qe (Yt h) (Zf1 (Z0.Zw v) nc drv l) (bad:=false) (good:=true)
  (λk x hx hk _=>by
   refine Zp5 ?_;simp only[Qq,show (k:Int)<(l.length:Int) from by omega,if_true,Zu,hx,Bq,e1];refine ZhF (Q:=Zf1 (Z0.Zw v) nc drv l k x) (P:=(0<=Zh.Place x/\Zh.Place x<=((Z0.Zw v).length:Int)-1)/\Zf1 (Z0.Zw v) nc drv l k x) (ZeL (Zgg v _ hn) (λhp=>?_)) ⟨λq=>q.2,λq=>⟨q.1,q⟩⟩;obtain ⟨p,hp1,_⟩:=ZkY hp.1 (show Zh.Place x<((Z0.Zw v).length:Int) by omega);rw[hp1,Bq];by_cases hk0:0<k
   ·obtain ⟨y,hy⟩:∃ y,l[k-1]?=some y:=⟨_,List.getElem?_eq_getElem (by omega)⟩
    rw[if_pos (show (0:Int)<(k:Int) by omega),Zj5 (by omega) (by omega),Zu,hy,Bq];cases drv
    ·simp only[Bool.false_eq_true,if_false]
     refine ZhF (ZhG (λ_=>ZqP (λ_=>ZhG (λ_=>ZeL (XB _ _ _) (λ_=>ZeL (Zau _) (λ_=>ZhG (λ_=>ZhG (λ_=>ZqP (λ_=>ZtB))))))))) ?_;unfold Zf1;rw[ZcC hp1,Zgz hk0 hy,ZkU];unfold Zm9 Zey ZkW;grind
    ·simp only[if_true]
     refine ZhF (ZhG (λ_=>ZqP (λ_=>ZhG (λ_=>ZeL (XB _ _ _) (λ_=>ZeL (Zau _) (λ_=>ZhG (λ_=>ZhG (λ_=>ZeL (ZfG _) (λ_=>ZtB))))))))) ?_;unfold Zf1;rw[ZcC hp1,Zgz hk0 hy];unfold Zm9 Zey ZkW;grind
   ·rw[if_neg (show ¬(0:Int)<(k:Int) by omega)]
    cases drv
    ·simp only[Bool.false_eq_true,if_false]
     refine ZhF (ZhG (λ_=>ZqP (λ_=>ZeL (XB _ _ _) (λ_=>ZeL (Zau _) (λ_=>ZhG (λ_=>ZhG (λ_=>ZqP (λ_=>ZtB)))))))) ?_;unfold Zf1;rw[ZcC hp1,ZeT hk0,ZkU];unfold Zm9 Zey ZkW;grind
    ·simp only[if_true]
     refine ZhF (ZhG (λ_=>ZqP (λ_=>ZeL (XB _ _ _) (λ_=>ZeL (Zau _) (λ_=>ZhG (λ_=>ZhG (λ_=>ZeL (ZfG _) (λ_=>ZtB)))))))) ?_;unfold Zf1;rw[ZcC hp1,ZeT hk0];unfold Zm9 Zey ZkW;grind)
  (λ_=>by simp only[Qq,Int.lt_irrefl,if_false]),Zkg]
 rfl
theorem ZcR (b:Zj) (s:Zo) (l:List Zh) (drv:Bool) (h:sm (.sl Yx) l) (hf:Few (Zj.Design b)) (hc:(Zo.Yk s).length<=1048576):Vy b s l drv=some (tr (ZfB (Zw (Zj.Design b)) ((Zo.Yk s).length:Int) drv l)):=by
 have hs:=Zv h;have hpl:=V9 hf;have e1:Wq (((Zo.Yk s).length:Int)-1)=((Zo.Yk s).length:Int)-1:=Zar (by omega) (by omega);have e2:Wq (((Zw (Zj.Design b)).length:Int)-1)=((Zw (Zj.Design b)).length:Int)-1:=Zar (by omega) (by omega);unfold Vy;rw[QA _ hf,Bq];rw[Qe (Yt h) (Zf1 (Zw (Zj.Design b)) ((Zo.Yk s).length:Int) drv l) (bad:=false) (good:=true)
  (λk x hx hk _=>by
   refine Zp5 ?_;simp only[VP,show (k:Int)<(l.length:Int) from by omega,if_true,Zu,hx,Bq,e1,e2];refine ZhF (Q:=Zf1 (Zw (Zj.Design b)) ((Zo.Yk s).length:Int) drv l k x) (P:=(0<=Zh.Place x/\Zh.Place x<=((Zw (Zj.Design b)).length:Int)-1)/\Zf1 (Zw (Zj.Design b)) ((Zo.Yk s).length:Int) drv l k x) (ZeL (Qr _ _ _) (λhp=>?_)) ⟨λq=>q.2,λq=>⟨q.1,q⟩⟩;obtain ⟨p,hp1,_⟩:=ZkY hp.1 (show Zh.Place x<((Zw (Zj.Design b)).length:Int) by omega);rw[hp1];simp only[Bq];by_cases hk0:0<k
   ·obtain ⟨y,hy⟩:∃ y,l[k-1]?=some y:=⟨_,List.getElem?_eq_getElem (by omega)⟩
    rw[if_pos (show (0:Int)<(k:Int) by omega),Zj5 (by omega) (by omega),Zu,hy,Bq];cases drv
    ·simp only[Bool.false_eq_true,if_false]
     refine ZhF (ZhG (λ_=>ZeL (Qr _ _ _) (λ_=>ZhG (λ_=>ZqP (λ_=>ZhG (λ_=>ZhG (λ_=>ZhG (λ_=>ZeL (ZaF _) (λ_=>ZqP (λ_=>ZtB)))))))))) ?_;unfold Zf1;rw[ZcC hp1,Zgz hk0 hy,ZkU];unfold Zm9 Zey;grind
    ·simp only[if_true]
     refine ZhF (ZhG (λ_=>ZeL (Qr _ _ _) (λ_=>ZhG (λ_=>ZqP (λ_=>ZhG (λ_=>ZhG (λ_=>ZhG (λ_=>ZeL (ZaF _) (λ_=>ZtB))))))))) ?_;unfold Zf1;rw[ZcC hp1,Zgz hk0 hy];unfold Zm9 Zey;grind
   ·rw[if_neg (show ¬(0:Int)<(k:Int) by omega)]
    cases drv
    ·simp only[Bool.false_eq_true,if_false]
     refine ZhF (ZeL (Qr _ _ _) (λ_=>ZhG (λ_=>ZqP (λ_=>ZhG (λ_=>ZhG (λ_=>ZhG (λ_=>ZeL (ZaF _) (λ_=>ZqP (λ_=>ZtB))))))))) ?_;unfold Zf1;rw[ZcC hp1,ZeT hk0,ZkU];unfold Zm9 Zey;grind
    ·simp only[if_true]
     refine ZhF (ZeL (Qr _ _ _) (λ_=>ZhG (λ_=>ZqP (λ_=>ZhG (λ_=>ZhG (λ_=>ZhG (λ_=>ZeL (ZaF _) (λ_=>ZtB)))))))) ?_;unfold Zf1;rw[ZcC hp1,ZeT hk0];unfold Zm9 Zey;grind)
  (λ_=>by simp only[VP,Int.lt_irrefl,if_false]),Zkg]
 rfl
theorem Zl5 {s:Zo} (h:sm Vh s):sm (.sl Xh) (Zo.Yk s)/\sm (.sl Yx) (Zo.Zbb s)/\sm (.sl Yx) (Zo.Vp s)/\sm (.sl Z4) (Zo.Exceptions s)/\sm (.sl Y6) (Zo.X5 s):=by
 refine ⟨?_,?_,?_,?_,?_⟩;all_goals first | exact h.1 | exact h.2.1 | exact h.2.2.1 | exact h.2.2.2.1 | exact h.2.2.2.2.1
theorem Ztd {l:List Zc} (h:sm (.sl Xh) l):ZtA l:=by
 intro c hc;have:=Zgr h hc;refine ZdL ?_;first | exact this.1 | exact this.2.1
def Znb (pl:List Pl) (s:Zo):Prop :=
 ZcS (Zo.Yk s)/\(∀ c∈Zo.Yk s,Zc.Place c<(pl.length:Int))/\ZfB pl ((Zo.Yk s).length:Int) true (Zo.Zbb s)/\ZfB pl ((Zo.Yk s).length:Int) false (Zo.Vp s)/\
 (Zo.Exceptions s).length<=6/\(∀ e∈Zo.Exceptions s,Ziw pl.length e)/\Zew (Zo.X5 s)
theorem ZcS.place {l:List Zc} (h:ZcS l) {c:Zc} (hc:c∈l):0<=Zc.Place c:=by
 obtain ⟨k,hk⟩:=List.mem_iff_getElem?.1 hc;have h1:=h.2.1 k c (by have:=(List.getElem?_eq_some_iff.1 hk).1;omega) hk;unfold Zdm Zgn at h1;simp only[Bool.and_eq_true,decide_eq_true_eq] at h1;exact h1.1.1.1.1.1
theorem Zln (v:Z0) (s:Zo) (h:sm Vh s) (hn:(Z0.Zw v).length<=1048576):J5 v s=some (tr (Znb (Z0.Zw v) s)):=by
 obtain ⟨a1,a2,a3,a4,a5⟩:=Zl5 h;have s1:=Zv a1;unfold J5;rw[show Je (Zo.Yk s)=some ((Zo.Yk s).length:Int) from rfl,Bq];refine ZcH (Yw (Zkl _) (λhC=>Zpm (P:=¬∀ c∈Zo.Yk s,Zc.Place c<((Z0.Zw v).length:Int)) ?_ (λ_=>Yw (ZcO v _ true _ a2 hn (by omega) (by omega)) (λ_=>Yw (ZcO v _ false _ a3 hn (by omega) (by omega)) (λ_=>Zdj (λ_=>Zpm (P:=¬∀ e∈Zo.Exceptions s,Ziw (Z0.Zw v).length e) ?_ (λ_=>(?_:_=some (tr (Zew (Zo.X5 s))))))))))) ?_
 ·rw[Xf (Yt a1) (λc=>!tr (0<=Zc.Place c/\Zc.Place c<=((Z0.Zw v).length:Int)-1)) (λc _=>by
   unfold Qj;show (Qz v (Zc.Place c)).bind _=_;rw[Zgg v _ hn];rfl)]
  refine Zaf ?_;rw[List.any_eq_true];constructor
  ·rintro ⟨c,hc,hb⟩ hall
   have:=hall c hc;have h0:=hC.place hc;rw[Yf (by omega)] at hb;cases hb
  ·intro hh
   apply Classical.byContradiction;intro hne;refine hh (λc hc=>?_);apply Classical.byContradiction;intro hlt;exact hne ⟨c,hc,by rw[ZF (by omega)];rfl⟩
 ·rw[YT (Yt a4) (λe=>!tr (Ziw (Z0.Zw v).length e)) (λe he=>by
   unfold Qk;show (X8 v e).bind _=_;rw[ZeC v e (Zgr a4 he) hn];rfl)]
  refine Zaf ?_;rw[List.any_eq_true];constructor
  ·rintro ⟨c,hc,hb⟩ hall
   rw[Yf (hall c hc)] at hb;cases hb
  ·intro hh
   apply Classical.byContradiction;intro hne;refine hh (λc hc=>?_);apply Classical.byContradiction;intro hlt;exact hne ⟨c,hc,by rw[ZF hlt];rfl⟩
 ·by_cases h0:(Zo.X5 s).length=0
  ·rw[if_pos (by omega)]
   refine Zaf ⟨λ_=>?_,λ_=>rfl⟩;have:Zo.X5 s=[]:=List.eq_nil_of_length_eq_zero h0;rw[this];exact ⟨by simp,λc hc=>(by cases hc),λj _ hj=>(by simp at hj)⟩
  ·rw[if_neg (by omega),Zhb _ a5 h0];rfl
 ·unfold Znb
  simp only[Classical.not_not];constructor
  ·rintro ⟨q1,q2,q3,q4,q5,q6,q7⟩;exact ⟨q1,q2,q3,q4,by omega,q6,q7⟩
  ·rintro ⟨q1,q2,q3,q4,q5,q6,q7⟩;exact ⟨q1,q2,q3,q4,by omega,q6,q7⟩
def ZqT (b:Zj) (s:Zo):Prop:=ZhJ b/\Znb (Zw (Zj.Design b)) s
theorem ZCW (b:Zj) (s:Zo) (hb:sm Xz b) (hs:sm Vh s):ZBQ b s=some (tr (ZqT b s)):=by
 unfold ZBQ;refine Yw (Zlh b hb) (λhB=>?_);obtain ⟨v,h1,h2,_⟩:=Zo4 ⟨hB,hb⟩;have hpl:=V9 hB.1.few;rw[h1,Bq,Zln v s hs (by rw[h2];omega),h2];rfl
theorem Zl6 (b:Zj) (s:Zo) (hb:sm Xz b) (hs:sm Vh s):Zeo b s=some (tr (ZqT b s)):=by
 obtain ⟨a1,a2,a3,a4,a5⟩:=Zl5 hs;have s1:=Zv a1;have s4:=Zv a4;unfold Zeo;refine ZcH (Yw (Zgs b hb) (λhB=>Yw (ZkD _ (Ztd a1) (by omega)) (λhC=>Zdj (λ_=>Yw (Zjj _ a5) (λ_=>(?_:_=some (tr (ZdM (Zo.Yk s) (λ_ c=>Zc.Place c<((Zw (Zj.Design b)).length:Int))/\ZdM (Zo.Exceptions s) (λ_ e=>Ziw (Zw (Zj.Design b)).length e)/\ZfB (Zw (Zj.Design b)) ((Zo.Yk s).length:Int) true (Zo.Zbb s)/\ZfB (Zw (Zj.Design b)) ((Zo.Yk s).length:Int) false (Zo.Vp s))))))))) ?_
 ·have hf:=hB.1.few
  have hpl:=V9 hf;rw[Qe (Yt a1) (λ_ c=>Zc.Place c<((Zw (Zj.Design b)).length:Int)) (bad:=false) (good:=tr (ZdM (Zo.Exceptions s) (λ_ e=>Ziw (Zw (Zj.Design b)).length e)/\ZfB (Zw (Zj.Design b)) ((Zo.Yk s).length:Int) true (Zo.Zbb s)/\ZfB (Zw (Zj.Design b)) ((Zo.Yk s).length:Int) false (Zo.Vp s)))
   (λk c hx hk _=>by
    simp only[ZbE,show (k:Int)<((Zo.Yk s).length:Int) from by omega,if_true,Zu,hx,Bq,QA _ hf];constructor
    ·intro hh;rw[if_neg (by omega)]
    ·intro hh;rw[if_pos (by omega)])
   (λ_=>by
    simp only[ZbE,Int.lt_irrefl,if_false];rw[Qe (Yt a4) (λ_ e=>Ziw (Zw (Zj.Design b)).length e) (bad:=.inr false) (good:=.inr (tr (ZfB (Zw (Zj.Design b)) ((Zo.Yk s).length:Int) true (Zo.Zbb s)/\ZfB (Zw (Zj.Design b)) ((Zo.Yk s).length:Int) false (Zo.Vp s))))
     (λk e hx hk _=>by
      simp only[ZbD,show (k:Int)<((Zo.Exceptions s).length:Int) from by omega,if_true,Zu,hx,Bq,ZaU b ⟨hB,hb⟩ e (ZeM a4 hx)];constructor
      ·intro hh;rw[if_pos (Yf hh)]
      ·intro hh;rw[if_neg (λq=>hh ((QM _).1 q))])
     (λ_=>by
      simp only[ZbD,Int.lt_irrefl,if_false,ZcR b s _ _ a2 hf s1,ZcR b s _ _ a3 hf s1,Bq];by_cases q1:ZfB (Zw (Zj.Design b)) ((Zo.Yk s).length:Int) true (Zo.Zbb s)
      ·rw[if_pos (Yf q1)]
       congr 3;exact XJ ⟨λq=>⟨q1,q⟩,λq=>q.2⟩
      ·rw[if_neg (λq=>q1 ((QM _).1 q)),ZF (λq=>q1 q.1)])]
    congr 1;by_cases q1:ZdM (Zo.Exceptions s) (λ_ e=>Ziw (Zw (Zj.Design b)).length e)
    ·rw[YS q1]
     congr 1;exact XJ ⟨λq=>⟨q1,q⟩,λq=>q.2⟩
    ·rw[YC q1,ZF (λq=>q1 q.1)]),ZbA]
 ·unfold ZqT Znb
  rw[QW,QW];constructor
  ·rintro ⟨q1,q2,q3,q4,q5,q6,q7,q8⟩;exact ⟨q1,q2,q5,q7,q8,by omega,q6,q4⟩
  ·rintro ⟨q1,q2,q5,q7,q8,q3,q6,q4⟩;exact ⟨q1,q2,by omega,q4,q5,q6,q7,q8⟩
end Go.Proofs.YtepbknolmhmipaaGreatDoor
