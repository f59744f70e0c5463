/-
  Ground of the plain laws: loops by what they come to; small arithmetic.
-/
import Derived.Test.YtgjjlgodlhhdoaaGreatDoorSxM
import Derived.IntWalk
import Derived.Test.YtgjjlgodlhhdoaaGreatDoorM
namespace Go.Proofs.YtgjjlgodlhhdoaaGreatDoor
set_option linter.unusedVariables false
set_option linter.unusedSimpArgs false
open Go Go.Sx
theorem YI {n:Int} (h1:-9223372036854775808<=n) (h2:n<=9223372036854775807):Wq n=n:=IntWalk.i64_in n ⟨h1,h2⟩
theorem Zo {α:Type} (l:List α) (k:Nat):atI l (k:Int)=l[k]?:=by simp[atI]
theorem Qn {α:Type} {l:List α} {i:Int} {x:α} (h0:0<=i) (hx:l[i.toNat]?=some x):atI l i=some x:=by simp[atI,h0,hx]
theorem ZlH {α:Type} {l:List α} {i:Int} (h0:0<=i) (h1:i<l.length):∃ x,atI l i=some x/\l[i.toNat]?=some x :=
  ⟨l[i.toNat]'(by omega),by simp[atI,h0],List.getElem?_eq_getElem _⟩
theorem Zn {α:Type} {p:Prop} (h:p) (a:Option α):Zw p a=a:=by
  unfold Zw;exact if_pos h
theorem ZdH {τ ρ:Type} {step:τ->Option (τ ⊕ ρ)} (n:Nat) (I:Nat->τ->Prop) (Q:ρ->Prop) {v:τ} (h0:I 0 v)
    (hs:∀ k v,k<n->I k v->(∃ v',step v=some (.inl v')/\I (k+1) v')\/∃ r,step v=some (.inr r)/\Q r)
    (hx:∀ v,I n v->∃ r,step v=some (.inr r)/\Q r):∃ r,Zp step v=some r/\Q r:=by
  have:∀ m k v,k+m=n->I k v->∃ r,Zp step v=some r/\Q r:=by
    intro m;induction m with
    | zero =>
      intro k v hk hI;have:k=n:=by omega
      subst this;obtain ⟨r,e,hq⟩:=hx v hI;exact ⟨r,YL e,hq⟩
    | succ m ih =>
      intro k v hk hI;rcases hs k v (by omega) hI with ⟨v',e,hI'⟩ | ⟨r,e,hq⟩
      · obtain ⟨r,h1,h2⟩:=ih (k+1) v' (by omega) hI'
        exact ⟨r,by rw[YM e];exact h1,h2⟩
      · exact ⟨r,YL e,hq⟩
  exact this n 0 v (by omega) h0
theorem Yv {τ ρ:Type} {step:τ->Option (τ ⊕ ρ)} (n:Nat) (I:Nat->τ->Prop) (R:ρ) {v:τ} (h0:I 0 v)
    (hs:∀ k v,k<n->I k v->(∃ v',step v=some (.inl v')/\I (k+1) v')\/step v=some (.inr R))
    (hx:∀ v,I n v->step v=some (.inr R)):Zp step v=some R:=by
  obtain ⟨r,h1,h2⟩:=ZdH n I (λr=>r=R) h0 (λk v hk hI=>(hs k v hk hI).elim .inl (λh=>.inr ⟨R,h,rfl⟩)) (λv hI=>⟨R,hx v hI,rfl⟩);rw[h1,h2]
theorem XR {α:Type} {l:List α} {k:Nat} {x:α} (hx:l[k]?=some x):l.take (k+1)=l.take k++[x]:=by
  rw[List.take_add_one,hx];rfl
theorem ZsA {ρ:Type} {g:Nat->Option ρ} {v:ρ} (h:∃ n,g n=some v) (hd:∀ n r,g n=some r->r=v):ZvX g=some v:=by
  obtain ⟨n,hn⟩:=h;unfold ZvX;have hx:∃ r n,g n=some r:=⟨v,n,hn⟩;rw[dif_pos hx];obtain ⟨m,hm⟩:=Classical.choose_spec hx;rw[hd m _ hm]
def sm:(t:Ty)->t.den->Prop
  | .str,s=>(s.length:Int)<=1048576
  | .sl t,l=>(l.length:Int)<=1048576/\∀ x∈l,sm t x
  | .pair a b,d=>sm a d.1/\sm b d.2
  | _,_=>True
noncomputable def tr (p:Prop):Bool:=@decide p (Classical.propDecidable p)
theorem ZlA {p:Prop} {b:Bool} (h:b=true<->p):tr p=b:=by
  unfold tr;cases b
  · simp at h;simp[h]
  · simp at h;simp[h]
theorem YH (p:Prop):tr p=true<->p:=by simp[tr]
theorem ZU {p:Prop} (h:p):tr p=true:=(YH p).2 h
theorem Z4 {p:Prop} (h:¬p):tr p=false:=by simp[tr,h]
def within (n a b:Int):Bool:=decide (a<=n)&&decide (n<=b)
theorem J3 (n a b:Int):YF n a b=some (within n a b):=by
  unfold YF within;split<;>simp[*]
theorem ZcC (n a b:Int):Yq n a b=some (within n a b):=by
  unfold Yq within;split<;>simp[*]
theorem within_iff (n a b:Int):within n a b=true<->a<=n/\n<=b:=by simp[within]
def Ze4 (b:UInt8):Bool:=decide (97<=b.toNat)&&decide (b.toNat<=122)
def Ziy (b:UInt8):Bool:=decide (48<=b.toNat)&&decide (b.toNat<=57)
def JU (s:List UInt8):Bool:=decide (1<=s.length)&&decide (s.length<=8)&&s.all (λb=>Ze4 b||Ziy b)&&(match s with
  | b::_=>Ze4 b
  | []=>false)
def Znf (s:List UInt8) (i:Nat):Prop:=∀ (j:Nat) (b:UInt8),j<i->s[j]?=some b->(Ze4 b||Ziy b)=true/\(j=0->Ze4 b=true)
theorem ZoX {s:List UInt8} {i:Nat} {x:UInt8} (h:Znf s i) (hx:s[i]?=some x) (h1:(Ze4 x||Ziy x)=true) (h2:i=0->Ze4 x=true):Znf s (i+1):=by
  intro j b hj hb;by_cases e:j<i
  · exact h j b e hb
  · have:j=i:=by omega
    subst this;rw[hx] at hb;injection hb with hb;subst hb
    exact ⟨h1,h2⟩
theorem ZmK {s:List UInt8} (h:Znf s s.length):JU s=(decide (1<=s.length)&&decide (s.length<=8)):=by
  unfold JU;have h1:s.all (λb=>Ze4 b||Ziy b)=true:=by
    rw[List.all_eq_true];intro b hb;obtain ⟨j,hj⟩:=List.mem_iff_getElem?.1 hb;exact (h j b (List.getElem?_eq_some_iff.1 hj).1 hj).1
  rw[h1];cases s with
  | nil=>rfl
  | cons b r =>
    have:=(h 0 b (by simp) rfl).2 rfl;simp[this]
theorem ZqN {s:List UInt8} {j:Nat} {b:UInt8} (hb:s[j]?=some b) (h:(Ze4 b||Ziy b)=false\/j=0/\Ze4 b=false):JU s=false:=by
  unfold JU;rcases h with h | ⟨rfl,h⟩
  · have:s.all (λb=>Ze4 b||Ziy b)=false:=by
      rw[List.all_eq_false];exact ⟨b,List.mem_of_getElem? hb,by simp[h]⟩
    simp[this]
  · cases s with
    | nil=>simp at hb
    | cons c r=>simp at hb;subst hb;simp[h]
theorem ZcH (s:List UInt8) (hl:s.length<=4611686018427387904):ZaF s=some (JU s):=by
  unfold ZaF;refine Yv s.length (λk v=>v.1=(k:Int)/\Znf s k) _ ⟨rfl,λj b hj=>by omega⟩ ?_ ?_
  · rintro k ⟨i,⟨⟩⟩ hk ⟨rfl,hS⟩
    have hx:s[k]?=some s[k]:=List.getElem?_eq_getElem hk;generalize s[k]=x at hx;simp only[ZcI,Zo,hx,Bq,show (k:Int)<(s.length:Int) from by omega,if_true,YI (show (-9223372036854775808:Int)<=(k:Int)+1 by omega) (by omega)];have ok:(Ze4 x||Ziy x)=true->(k=0->Ze4 x=true)->(((k:Int)+1,()):Int×Unit).1=((k+1:Nat):Int)/\Znf s (k+1):=λh1 h2=>⟨by simp,ZoX hS hx h1 h2⟩;have bad:((Ze4 x||Ziy x)=false\/k=0/\Ze4 x=false)->(some (Sum.inr false):Option (Int×Unit ⊕ Bool))=some (Sum.inr (JU s)):=λh=>by rw[ZqN hx h]
    simp only[Ze4,Ziy] at ok bad;repeat' split
    all_goals first
      | (left;refine ⟨_,rfl,ok ?_ ?_⟩<;>simp<;>omega)
      | (right;refine bad ?_;first | (left;simp;omega) | (right;simp;omega))
  · rintro ⟨i,⟨⟩⟩ ⟨rfl,hS⟩
    simp only[ZcI,Int.lt_irrefl,if_false];rw[ZmK hS];split
    · rename_i h
      have h1:1<=s.length:=by omega
      have h2:decide ((s.length:Int)<=8)=decide (s.length<=8):=by rw[decide_eq_decide];omega
      simp[h1,h2]
    · have h1:¬1<=s.length:=by omega
      simp[h1]
theorem dropWhile_nil {p:UInt8->Bool}:∀ (m:List UInt8),(∀ x∈m.dropWhile p,p x=true)->∀ x∈m,p x=true
  | [],_=>by simp
  | a::m,h=>by
    by_cases ha:p a=true
    · rw[List.dropWhile_cons_of_pos ha] at h
      intro x hx;rcases List.mem_cons.1 hx with rfl | hx
      · exact ha
      · exact dropWhile_nil m h x hx
    · rw[List.dropWhile_cons_of_neg ha] at h
      exact absurd (h a (by simp)) ha
theorem ZhH {p:UInt8->Bool}:∀ (m:List UInt8),m.dropWhile p=[]<->∀ x∈m,p x=true
  | []=>by simp
  | a::m=>by
    by_cases ha:p a=true
    · rw[List.dropWhile_cons_of_pos ha,ZhH m];simp[ha]
    · rw[List.dropWhile_cons_of_neg ha];simp[ha]
theorem Zs2 (s cs:List UInt8):Lib.trimS s cs=[]<->∀ b∈s,cs.contains b=true:=by
  unfold Lib.trimS Lib.trimLeftS Lib.trimRightS;rw[ZhH];constructor
  · intro h b hb
    exact dropWhile_nil s.reverse (λx hx=>h x (List.mem_reverse.2 hx)) b (List.mem_reverse.2 hb)
  · intro h b hb
    exact h b (List.mem_reverse.1 ((List.dropWhile_sublist _).subset (List.mem_reverse.1 hb)))
def letters:List UInt8:=[97,98,99,100,101,102,103,104,105,106,107,108,109,110,111,112,113,114,115,116,117,118,119,120,121,122]
def ZfA:List UInt8:=letters++[48,49,50,51,52,53,54,55,56,57]
theorem ZuP {p:UInt8->Bool} (h:(List.range 256).all (λn=>p (UInt8.ofNat n))=true) (b:UInt8):p b=true:=by
  rw[List.all_eq_true] at h;have:=h b.toNat (List.mem_range.2 b.toNat_lt);simpa using this
theorem Zf7 (b:UInt8):ZfA.contains b=(Ze4 b||Ziy b):=by
  have:=ZuP (p:=λb=>ZfA.contains b == (Ze4 b||Ziy b)) (by decide +kernel) b;simpa using this
theorem Zoe (s:List UInt8):Lib.trimS s ZfA=[]<->s.all (λb=>Ze4 b||Ziy b)=true:=by
  rw[Zs2,List.all_eq_true];simp only[Zf7]
theorem ZmA (b:UInt8):decide (0<=(Lib.indexByte letters b:Int))=Ze4 b:=by
  have:=ZuP (p:=λb=>decide (0<=(Lib.indexByte letters b:Int)) == Ze4 b) (by decide +kernel) b;simpa using this
theorem Ze3 (s:List UInt8):Zc5 s=some (JU s):=by
  unfold Zc5;rw[J3,Bq];split
  · rename_i h
    rw[within_iff] at h;rw[Zn (by omega)];split
    · rename_i ht
      have ht':=(Zoe s).1 ht;cases s with
      | nil=>simp at h
      | cons b r =>
        have e:atI (b::r) (0:Int)=some b:=rfl;rw[e,Bq];have e1:((b.toNat:Int)).toNat.toUInt8=b:=by simp
        rw[e1];have h1:1<=(b::r).length:=by simp
        have h2:(b::r).length<=8:=by omega
        have:=ZmA b;unfold letters at this;rw[this];simp only[JU,ht',decide_eq_true h1,decide_eq_true h2,Bool.true_and]
    · rename_i ht
      have ht':¬s.all (λb=>Ze4 b||Ziy b)=true:=λe=>ht ((Zoe s).2 e);simp only[JU,Bool.eq_false_iff.2 ht',Bool.and_false,Bool.false_and]
  · rename_i h
    rw[within_iff] at h;have:¬(1<=s.length/\s.length<=8):=by omega
    rw[eq_comm];congr 1;rw[Bool.eq_false_iff];intro hh;simp only[JU,Bool.and_eq_true,decide_eq_true_eq] at hh;omega
theorem ZjI (l:List (List UInt8)) (s:List UInt8) (hl:l.length<=4611686018427387904):∃ r,X7 l s=some r/\(0<=r<->s∈l):=by
  unfold X7;refine ZdH l.length (λk v=>v.1=(k:Int)/\s ∉ l.take k) _ ⟨rfl,by simp⟩ ?_ ?_
  · rintro k ⟨i,⟨⟩⟩ hk ⟨rfl,hS⟩
    have hx:l[k]?=some l[k]:=List.getElem?_eq_getElem hk;generalize l[k]=x at hx;simp only[X8,Zo,hx,Bq,show (k:Int)<(l.length:Int) from by omega,if_true,YI (show (-9223372036854775808:Int)<=(k:Int)+1 by omega) (by omega)];split
    · rename_i e;subst e
      exact .inr ⟨_,rfl,λ_=>List.mem_of_getElem? hx,λ_=>by simp⟩
    · rename_i e
      exact .inl ⟨_,rfl,by simp,by rw[XR hx];simp[hS,e]⟩
  · rintro ⟨i,⟨⟩⟩ ⟨rfl,hS⟩
    simp only[X8,Int.lt_irrefl,if_false];refine ⟨_,rfl,λh=>by omega,λh=>absurd h (by simpa using hS)⟩
theorem Zho (l:List (List UInt8)) (s:List UInt8) (hl:l.length<=4611686018427387904):Xu l s=some (decide (s∈l)):=by
  obtain ⟨r,h1,h2⟩:=ZjI l s hl;unfold Xu;rw[h1,Bq];simp only[h2]
def Vi (l:List (List UInt8)) (k:Nat):Prop:=∀ (j:Nat) (s:List UInt8),j<k->l[j]?=some s->JU s=true/\s ∉ l.take j
theorem JR (l:List (List UInt8)) (hl:l.length<=4611686018427387904):Vx l=some (tr (Vi l l.length)):=by
  unfold Vx;refine Yv l.length (λk v=>v.1=(k:Int)/\Vi l k) _ ⟨rfl,λj s hj=>by omega⟩ ?_ ?_
  · rintro k ⟨i,⟨⟩⟩ hk ⟨rfl,hS⟩
    have hx:l[k]?=some l[k]:=List.getElem?_eq_getElem hk;generalize l[k]=x at hx;simp only[ZbD,Zo,hx,Bq,show (k:Int)<(l.length:Int) from by omega,if_true,YI (show (-9223372036854775808:Int)<=(k:Int)+1 by omega) (by omega),Ze3];split
    · rename_i hn
      rw[Zn (by omega),Zn (by omega)];simp only[Int.toNat_natCast,Int.toNat_zero,List.drop_zero,Nat.sub_zero];rw[Zho _ _ (by simp only[List.length_take];omega),Bq];split
      · rename_i hm
        right;rw[Z4];intro hh;exact (hh k x hk hx).2 (by simpa using hm)
      · rename_i hm
        refine .inl ⟨_,rfl,by simp,λj s hj hs=>?_⟩;by_cases e:j<k
        · exact hS j s e hs
        · have:j=k:=by omega
          subst this;rw[hx] at hs;injection hs with hs;subst hs
          exact ⟨hn,by simpa using hm⟩
    · rename_i hn
      right;rw[Z4];intro hh;exact hn (hh k x hk hx).1
  · rintro ⟨i,⟨⟩⟩ ⟨rfl,hS⟩
    simp only[ZbD,Int.lt_irrefl,if_false];rw[ZU hS]
def allIn (l:List Int) (lo hi:Int):Bool:=l.all (λn=>within n lo hi)
theorem ZaS (l:List Int) (lo hi:Int) (hl:l.length<=4611686018427387904):Xg l lo hi=some (allIn l lo hi):=by
  have h1:∃ r,Z8 l (lo,hi,())=some r/\(0<=r<->allIn l lo hi=false):=by
    unfold Z8;refine ZdH l.length (λk v=>v.1=(k:Int)/\allIn (l.take k) lo hi=true) _ ⟨rfl,rfl⟩ ?_ ?_
    · rintro k ⟨i,⟨⟩⟩ hk ⟨rfl,hS⟩
      have hx:l[k]?=some l[k]:=List.getElem?_eq_getElem hk;generalize l[k]=x at hx;simp only[Yg,Zc3,J3,Zo,hx,Bq,show (k:Int)<(l.length:Int) from by omega,if_true,YI (show (-9223372036854775808:Int)<=(k:Int)+1 by omega) (by omega)];cases hw:within x lo hi
      · refine .inr ⟨_,rfl,λ_=>?_,λ_=>by simp⟩
        rw[allIn,List.all_eq_false];exact ⟨x,List.mem_of_getElem? hx,by simp[hw]⟩
      · refine .inl ⟨_,rfl,by simp,?_⟩
        rw[XR hx,allIn,List.all_append];simp only[allIn] at hS;simp[hS,hw]
    · rintro ⟨i,⟨⟩⟩ ⟨rfl,hS⟩
      rw[List.take_length] at hS;simp only[Yg,Int.lt_irrefl,if_false];exact ⟨_,rfl,λh=>by omega,λh=>by rw[hS] at h;cases h⟩
  obtain ⟨r,h1,h2⟩:=h1;unfold Xg Yo;rw[h1];simp only[Bq,h2];cases allIn l lo hi<;>simp
def Len {α:Type} (l:List α):Prop:=l.length<=4611686018427387904
theorem Zrj {k:Nat} {α:Type} {l:List α} (hl:Len l) (hk:k<=l.length):Wq ((k:Int)+1)=((k+1:Nat):Int):=by
  have:l.length<=4611686018427387904:=hl;rw[YI (by omega) (by omega)];simp
def Zb3 {α:Type} (p:α->Bool) (l:List α):Int:=match l.findIdx? p with
  | some i=>i
  | none=>-1
theorem ZaO {α:Type} {p:α->Bool} {l:List α}:0<=Zb3 p l<->l.any p=true:=by
  unfold Zb3;split
  · rename_i i h
    obtain ⟨h1,h2,_⟩:=List.findIdx?_eq_some_iff_getElem.1 h;refine ⟨λ_=>List.any_eq_true.2 ⟨_,List.getElem_mem h1,h2⟩,λ_=>by omega⟩
  · rename_i h
    rw[List.findIdx?_eq_none_iff] at h;refine ⟨λh'=>by omega,λh'=>?_⟩;obtain ⟨x,hx,hp⟩:=List.any_eq_true.1 h';have:=h x hx;rw[hp] at this;cases this
theorem J4 {α ρ:Type} {l:List α} (hl:Len l) {p:α->Bool} {step:Int×Unit->Option ((Int×Unit) ⊕ ρ)} {out:Int->ρ}
    (hs:∀ (k:Nat) (x:α),l[k]?=some x->step ((k:Int),())=some (if p x=true then .inr (out k) else .inl (Wq ((k:Int)+1),())))
    (hx:step ((l.length:Int),())=some (.inr (out (-1)))):Zp step (0,())=some (out (Zb3 p l)):=by
  refine Yv l.length (λk v=>v.1=(k:Int)/\∀ x∈l.take k,p x=false) _ ⟨rfl,by simp⟩ ?_ ?_
  · rintro k ⟨i,⟨⟩⟩ hk ⟨hi,hS⟩
    simp only at hi;subst hi;have hx:l[k]?=some l[k]:=List.getElem?_eq_getElem hk;rw[hs k _ hx,Zrj hl (by omega)];split
    · rename_i hp
      right;have:l.findIdx? p=some k:=by
        rw[List.findIdx?_eq_some_iff_getElem];refine ⟨hk,hp,λj hj=>?_⟩;have:=hS l[j] (List.mem_iff_getElem?.2 ⟨j,by rw[List.getElem?_take,if_pos hj];exact List.getElem?_eq_getElem _⟩);simp[this]
      unfold Zb3;rw[this]
    · rename_i hp
      refine .inl ⟨_,rfl,rfl,?_⟩;rw[XR hx];intro y hy;rcases List.mem_append.1 hy with hy | hy
      · exact hS y hy
      · simp at hy;subst hy;simpa using hp
  · rintro ⟨i,⟨⟩⟩ ⟨hi,hS⟩
    simp only at hi;subst hi;rw[List.take_length] at hS;have:l.findIdx? p=none:=List.findIdx?_eq_none_iff.2 hS;rw[hx];unfold Zb3;rw[this]
def foldI {α σ:Type} (f:Nat->α->σ->σ):Nat->List α->σ->σ
  | _,[],s=>s
  | k,x::r,s=>foldI f (k+1) r (f k x s)
theorem ZeD {α σ:Type} (f:Nat->α->σ->σ):∀ (l r:List α) (m:Nat) (s:σ),foldI f m (l++r) s=foldI f (m+l.length) r (foldI f m l s)
  | [],r,m,s=>by simp[foldI]
  | x::l,r,m,s=>by
    simp only[List.cons_append,foldI,List.length_cons,ZeD f l r];rw[show m+1+l.length=m+(l.length+1) by omega]
theorem Zeb {α σ:Type} {f:Nat->α->σ->σ} {l:List α} {k:Nat} {x:α} (hx:l[k]?=some x) (s:σ):foldI f 0 (l.take (k+1)) s=f k x (foldI f 0 (l.take k) s):=by
  have hk:=(List.getElem?_eq_some_iff.1 hx).1;rw[XR hx,ZeD];simp only[foldI,Nat.zero_add,List.length_take];rw[show min k l.length=k by omega]
theorem Zec {α σ τ ρ:Type} {l:List α} (hl:Len l) (pack:σ->Int->τ) {f:Nat->α->σ->σ} {step:τ->Option (τ ⊕ ρ)} {s0:σ} {R:ρ} (I:Nat->σ->Prop) (h0:I 0 s0)
    (hs:∀ (k:Nat) (x:α) (s:σ),l[k]?=some x->I k s->s=foldI f 0 (l.take k) s0->step (pack s (k:Int))=some (.inl (pack (f k x s) (Wq ((k:Int)+1))))/\I (k+1) (f k x s))
    (hx:∀ s,I l.length s->s=foldI f 0 l s0->step (pack s (l.length:Int))=some (.inr R)):Zp step (pack s0 0)=some R:=by
  refine Yv l.length (λk v=>v=pack (foldI f 0 (l.take k) s0) (k:Int)/\I k (foldI f 0 (l.take k) s0)) _ ⟨rfl,h0⟩ ?_ ?_
  · rintro k _ hk ⟨rfl,hI⟩
    have hx:l[k]?=some l[k]:=List.getElem?_eq_getElem hk;obtain ⟨h1,h2⟩:=hs k _ _ hx hI rfl;rw[h1,Zrj hl (by omega)];exact .inl ⟨_,rfl,by rw[Zeb hx],by rw[Zeb hx];exact h2⟩
  · rintro _ ⟨rfl,hI⟩
    rw[List.take_length] at hI ⊢;exact hx _ hI rfl
theorem Zkm {α β:Type} (g:α->β):∀ (l:List α) (m:Nat) (acc:List β),foldI (λ_ x s=>s++[g x]) m l acc=acc++l.map g
  | [],_,_=>by simp[foldI]
  | x::l,m,acc=>by simp[foldI,Zkm g l]
theorem ZpR {α β τ ρ:Type} {l:List α} (hl:Len l) (pack:List β->Int->τ) {g:α->β} {step:τ->Option (τ ⊕ ρ)} {s0:List β} {R:ρ}
    (hs:∀ (k:Nat) (x:α),l[k]?=some x->∀ s,s=s0++(l.take k).map g->step (pack s (k:Int))=some (.inl (pack (s++[g x]) (Wq ((k:Int)+1)))))
    (hx:step (pack (s0++l.map g) (l.length:Int))=some (.inr R)):Zp step (pack s0 0)=some R:=by
  refine Zec hl pack (f:=λ_ x s=>s++[g x]) (λ_ _=>True) trivial (λk x s hk _ he=>⟨hs k x hk s (by rw[he,Zkm]),trivial⟩) (λs _ he=>?_);rw[he,Zkm];exact hx
noncomputable def sel {ρ:Type} (P:Prop) (a b:ρ):ρ:=match tr P with
  | true=>a
  | false=>b
theorem XV {ρ:Type} {P:Prop} (h:P) (a b:ρ):sel P a b=a:=by simp[sel,ZU h]
theorem Xp {ρ:Type} {P:Prop} (h:¬P) (a b:ρ):sel P a b=b:=by simp[sel,Z4 h]
theorem Zfe (P:Prop):sel P true false=tr P:=by
  by_cases h:P
  · rw[XV h,ZU h]
  · rw[Xp h,Z4 h]
def ZdQ {α:Type} (l:List α) (P:Nat->α->Prop):Prop:=∀ (k:Nat) (x:α),l[k]?=some x->P k x
theorem QC {α ρ:Type} {l:List α} (hl:Len l) (P:Nat->α->Prop) {step:Int×Unit->Option ((Int×Unit) ⊕ ρ)} {bad good:ρ}
    (hs:∀ (k:Nat) (x:α),l[k]?=some x->k<l.length->(∀ (j:Nat) (y:α),j<k->l[j]?=some y->P j y)->(P k x->step ((k:Int),())=some (.inl (Wq ((k:Int)+1),())))/\(¬P k x->step ((k:Int),())=some (.inr bad)))
    (hx:ZdQ l P->step ((l.length:Int),())=some (.inr good)):Zp step (0,())=some (sel (ZdQ l P) good bad):=by
  refine Yv l.length (λk v=>v.1=(k:Int)/\∀ (j:Nat) (y:α),j<k->l[j]?=some y->P j y) _ ⟨rfl,λj y hj=>by omega⟩ ?_ ?_
  · rintro k ⟨i,⟨⟩⟩ hk ⟨hi,hS⟩
    simp only at hi;subst hi;have hx:l[k]?=some l[k]:=List.getElem?_eq_getElem hk;obtain ⟨h1,h2⟩:=hs k _ hx hk hS;by_cases hP:P k l[k]
    · rw[h1 hP,Zrj hl (by omega)]
      refine .inl ⟨_,rfl,rfl,λj y hj hy=>?_⟩;by_cases hjk:j<k
      · exact hS j y hjk hy
      · have:j=k:=by omega
        subst this;rw[hx] at hy;injection hy with hy;subst hy
        exact hP
    · right
      rw[h2 hP,Xp (λh=>hP (h k _ hx))]
  · rintro ⟨i,⟨⟩⟩ ⟨hi,hS⟩
    simp only at hi;subst hi;have hA:ZdQ l P:=λk x hk=>hS k x (List.getElem?_eq_some_iff.1 hk).1 hk;rw[hx hA,XV hA]
theorem ZpP {ρ:Type} (m n:Nat) (hmn:m<=n) (hn:n<=4611686018427387904) (P:Nat->Prop) {step:Int×Unit->Option ((Int×Unit) ⊕ ρ)} {bad good:ρ}
    (hs:∀ k:Nat,m<=k->k<n->(∀ j,m<=j->j<k->P j)->(P k->step ((k:Int),())=some (.inl (Wq ((k:Int)+1),())))/\(¬P k->step ((k:Int),())=some (.inr bad)))
    (hx:(∀ j,m<=j->j<n->P j)->step ((n:Int),())=some (.inr good)):Zp step ((m:Int),())=some (sel (∀ j,m<=j->j<n->P j) good bad):=by
  refine Yv (n-m) (λk v=>v.1=((m+k:Nat):Int)/\∀ j,m<=j->j<m+k->P j) _ ⟨by simp,λj h1 h2=>by omega⟩ ?_ ?_
  · rintro k ⟨i,⟨⟩⟩ hk ⟨hi,hS⟩
    simp only at hi;subst hi;obtain ⟨h1,h2⟩:=hs (m+k) (by omega) (by omega) hS;by_cases hP:P (m+k)
    · rw[h1 hP,YI (by omega) (by omega)]
      refine .inl ⟨_,rfl,by simp only;omega,λj ha hb=>?_⟩;by_cases hj:j<m+k
      · exact hS j ha hj
      · have:j=m+k:=by omega
        subst this;exact hP
    · right
      rw[h2 hP,Xp (λh=>hP (h (m+k) (by omega) (by omega)))]
  · rintro ⟨i,⟨⟩⟩ ⟨hi,hS⟩
    simp only at hi;subst hi;have e:m+(n-m)=n:=by omega
    rw[e] at hS ⊢;rw[hx hS,XV hS]
theorem X6 {l:List Zx} {f:Bool×Unit} (hl:Len l) (p:Zx->Bool) (hp:∀ x∈l,QW x f.fst=some (p x)):ZL l f=some (Zb3 p l):=by
  unfold ZL;refine J4 (out:=λi=>i) hl (p:=p) (λk x hx=>?_) ?_
  · have hk:=(List.getElem?_eq_some_iff.1 hx).1
    simp only[ZY,Zo,hx,Bq,show (k:Int)<(l.length:Int) from by omega,if_true,hp x (List.mem_of_getElem? hx)];split<;>rfl
  · simp only[ZY,Int.lt_irrefl,if_false]
theorem XP {l:List Zx} {f:Bool×Unit} (hl:Len l) (p:Zx->Bool) (hp:∀ x∈l,QW x f.fst=some (p x)):ZH l f=some (l.any p):=by
  unfold ZH;rw[X6 hl p hp,Bq];congr 1;rw[Bool.eq_iff_iff,decide_eq_true_eq,ZaO]
theorem Qh {l:List Y7} {f:Unit} (hl:Len l) (p:Y7->Bool) (hp:∀ x∈l,Zcg x=some (p x)):ZR l f=some (Zb3 p l):=by
  unfold ZR;refine J4 (out:=λi=>i) hl (p:=p) (λk x hx=>?_) ?_
  · have hk:=(List.getElem?_eq_some_iff.1 hx).1
    simp only[Z6,Zo,hx,Bq,show (k:Int)<(l.length:Int) from by omega,if_true,hp x (List.mem_of_getElem? hx)];split<;>rfl
  · simp only[Z6,Int.lt_irrefl,if_false]
theorem Qb {l:List ZB} {f:ZB×Unit} (hl:Len l) (p:ZB->Bool) (hp:∀ x∈l,Qa x f.fst=some (p x)):ZM l f=some (Zb3 p l):=by
  unfold ZM;refine J4 (out:=λi=>i) hl (p:=p) (λk x hx=>?_) ?_
  · have hk:=(List.getElem?_eq_some_iff.1 hx).1
    simp only[Z0,Zo,hx,Bq,show (k:Int)<(l.length:Int) from by omega,if_true,hp x (List.mem_of_getElem? hx)];split<;>rfl
  · simp only[Z0,Int.lt_irrefl,if_false]
theorem XW {l:List ZB} {f:ZB×Unit} (hl:Len l) (p:ZB->Bool) (hp:∀ x∈l,Qa x f.fst=some (p x)):ZI l f=some (l.any p):=by
  unfold ZI;rw[Qb hl p hp,Bq];congr 1;rw[Bool.eq_iff_iff,decide_eq_true_eq,ZaO]
theorem Qo {l:List ZB} {f:Int×Unit} (hl:Len l) (p:ZB->Bool) (hp:∀ x∈l,Zbu x f.fst=some (p x)):ZV l f=some (Zb3 p l):=by
  unfold ZV;refine J4 (out:=λi=>i) hl (p:=p) (λk x hx=>?_) ?_
  · have hk:=(List.getElem?_eq_some_iff.1 hx).1
    simp only[Z9,Zo,hx,Bq,show (k:Int)<(l.length:Int) from by omega,if_true,hp x (List.mem_of_getElem? hx)];split<;>rfl
  · simp only[Z9,Int.lt_irrefl,if_false]
theorem Qd {l:List ZB} {f:Int×Unit} (hl:Len l) (p:ZB->Bool) (hp:∀ x∈l,Zbu x f.fst=some (p x)):ZN l f=some (l.any p):=by
  unfold ZN;rw[Qo hl p hp,Bq];congr 1;rw[Bool.eq_iff_iff,decide_eq_true_eq,ZaO]
theorem Qe {l:List Int} {f:Zd×Unit} (hl:Len l) (p:Int->Bool) (hp:∀ x∈l,XB x f.fst=some (p x)):ZO l f=some (Zb3 p l):=by
  unfold ZO;refine J4 (out:=λi=>i) hl (p:=p) (λk x hx=>?_) ?_
  · have hk:=(List.getElem?_eq_some_iff.1 hx).1
    simp only[Z5,Zo,hx,Bq,show (k:Int)<(l.length:Int) from by omega,if_true,hp x (List.mem_of_getElem? hx)];split<;>rfl
  · simp only[Z5,Int.lt_irrefl,if_false]
theorem X0 {l:List Int} {f:Zd×Unit} (hl:Len l) (p:Int->Bool) (hp:∀ x∈l,XB x f.fst=some (p x)):ZJ l f=some (l.any p):=by
  unfold ZJ;rw[Qe hl p hp,Bq];congr 1;rw[Bool.eq_iff_iff,decide_eq_true_eq,ZaO]
theorem VD {l:List Int} {f:Unit} (hl:Len l) (p:Int->Bool) (hp:∀ x∈l,Zbv x=some (p x)):Yj l f=some (Zb3 p l):=by
  unfold Yj;refine J4 (out:=λi=>i) hl (p:=p) (λk x hx=>?_) ?_
  · have hk:=(List.getElem?_eq_some_iff.1 hx).1
    simp only[Yt,Zo,hx,Bq,show (k:Int)<(l.length:Int) from by omega,if_true,hp x (List.mem_of_getElem? hx)];split<;>rfl
  · simp only[Yt,Int.lt_irrefl,if_false]
theorem Q9 {l:List Int} {f:Unit} (hl:Len l) (p:Int->Bool) (hp:∀ x∈l,Zbv x=some (p x)):Yc l f=some (l.any p):=by
  unfold Yc;rw[VD hl p hp,Bq];congr 1;rw[Bool.eq_iff_iff,decide_eq_true_eq,ZaO]
theorem ZCk {l:List Int} {v:Int} (hl:Len l):ZB1 l v=some (Zb3 (λx=>decide (v=x)) l):=by
  unfold ZB1;refine J4 (out:=λi=>i) hl (λk x hx=>?_) ?_
  · have hk:=(List.getElem?_eq_some_iff.1 hx).1
    simp only[ZBZ,Zo,hx,Bq,show (k:Int)<(l.length:Int) from by omega,if_true,decide_eq_true_eq];split<;>rfl
  · simp only[ZBZ,Int.lt_irrefl,if_false]
theorem ZCi {l:List Int} {v:Int} (hl:Len l):ZBY l v=some (decide (v∈l)):=by
  unfold ZBY;rw[ZCk hl,Bq];congr 1;rw[Bool.eq_iff_iff,decide_eq_true_eq,decide_eq_true_eq,ZaO,List.any_eq_true];simp
theorem ZB9 {l:List Int} {f:List Bool×Ya×Unit} (hl:Len l) (p:Int->Bool) (hp:∀ x∈l,ZB6 x f.fst f.snd.fst=some (p x)):ZBW l f=some (Zb3 p l):=by
  unfold ZBW;refine J4 (out:=λi=>i) hl (p:=p) (λk x hx=>?_) ?_
  · have hk:=(List.getElem?_eq_some_iff.1 hx).1
    simp only[ZBX,Zo,hx,Bq,show (k:Int)<(l.length:Int) from by omega,if_true,hp x (List.mem_of_getElem? hx)];split<;>rfl
  · simp only[ZBX,Int.lt_irrefl,if_false]
theorem ZB8 {l:List Int} {f:List Bool×Ya×Unit} (hl:Len l) (p:Int->Bool) (hp:∀ x∈l,ZB6 x f.fst f.snd.fst=some (p x)):ZBU l f=some (l.any p):=by
  unfold ZBU;rw[ZB9 hl p hp,Bq];congr 1;rw[Bool.eq_iff_iff,decide_eq_true_eq,ZaO]
theorem X3 {l:List Zh} {f:Int×Unit} (hl:Len l) (p:Zh->Bool) (hp:∀ x∈l,ZdK x f.fst=some (p x)):ZK l f=some (Zb3 p l):=by
  unfold ZK;refine J4 (out:=λi=>i) hl (p:=p) (λk x hx=>?_) ?_
  · have hk:=(List.getElem?_eq_some_iff.1 hx).1
    simp only[ZW,Zo,hx,Bq,show (k:Int)<(l.length:Int) from by omega,if_true,hp x (List.mem_of_getElem? hx)];split<;>rfl
  · simp only[ZW,Int.lt_irrefl,if_false]
theorem Zc1 {a b:Bool} (h:a=true<->b=true):a=b:=by cases a<;>cases b<;>simp_all
theorem QO {P Q:Prop} (h:P<->Q):tr P=tr Q:=by rw[propext h]
def Inc (l:List Int):Prop:=∀ (k:Nat) (x y:Int),l[k]?=some x->l[k+1]?=some y->x<y
def Ze6 (l:List Int) (lo hi:Int):Prop:=∀ x∈l,lo<=x/\x<=hi
theorem Zhy (l:List Int) (lo hi:Int):allIn l lo hi=true<->Ze6 l lo hi:=by
  unfold allIn Ze6;rw[List.all_eq_true];simp only[within_iff]
theorem Za6 (l:List Int):XM l=some (l.length:Int):=rfl
theorem ZdV (l:List Int) (hl:Len l):QX l=some (tr (Inc l)):=by
  unfold QX;have h4:l.length<=4611686018427387904:=hl;by_cases h0:l.length=0
  · have:l=[]:=List.eq_nil_of_length_eq_zero h0
    subst this;rw[YL (r:=true) (by rfl)];have h0:Inc []:=λk x y h=>by simp at h
    rw[ZU h0]
  have:=ZpP (ρ:=Bool) 1 l.length (by omega) h4 (λk=>∀ x y,l[k-1]?=some x->l[k]?=some y->x<y) (step:=λv=>X4 l v.1) (bad:=false) (good:=true)
    (λk h1 h2 _=>by
      obtain ⟨x,hx⟩:∃ x,l[k-1]?=some x:=⟨_,List.getElem?_eq_getElem (by omega)⟩;obtain ⟨y,hy⟩:∃ y,l[k]?=some y:=⟨_,List.getElem?_eq_getElem h2⟩;have e1:Wq ((k:Int)-1)=((k-1:Nat):Int):=by rw[YI (by omega) (by omega)];omega
      simp only[X4,show (k:Int)<(l.length:Int) from by omega,if_true,e1,Zo,hx,hy,Bq];refine ⟨λh=>?_,λh=>?_⟩
      · have:=h x y rfl rfl
        rw[if_neg (by omega)]
      · rw[if_pos]
        rcases Int.lt_or_le x y with h' | h'
        · exact absurd (λa b ha hb=>by injection ha with ha;injection hb with hb;subst ha;subst hb;exact h') h
        · exact h')
    (λ_=>by simp only[X4,Int.lt_irrefl,if_false])
  refine (show Zp (λv=>X4 l v.1) ((1:Int),())=_ from this).trans ?_;rw[Zfe];congr 1;refine QO ⟨λh k x y hx hy=>?_,λh j h1 h2 x y hx hy=>?_⟩
  · exact h (k+1) (by omega) (List.getElem?_eq_some_iff.1 hy).1 x y (by simpa using hx) hy
  · exact h (j-1) x y hx (by rw[show j-1+1=j by omega];exact hy)
def ZdR (l:List Int):Prop:=1<=l.length/\l.length<=4/\Ze6 l 0 100000/\Inc l
theorem Zg0 (l:List Int) (hl:Len l):Zem l=some (tr (ZdR l)):=by
  unfold Zem;rw[Za6,Bq,J3,Bq,ZaS l _ _ hl,Bq,ZdV l hl,Bq];have e:tr (ZdR l)=(within (l.length:Int) 1 4&&allIn l 0 100000&&tr (Inc l)):=by
    refine ZlA ?_;simp only[Bool.and_eq_true,within_iff,Zhy,YH,ZdR];exact ⟨λ⟨⟨⟨a,b⟩,c⟩,d⟩=>⟨by omega,by omega,c,d⟩,λ⟨a,b,c,d⟩=>⟨⟨⟨by omega,by omega⟩,c⟩,d⟩⟩
  rw[e];cases within (l.length:Int) 1 4<;>cases allIn l 0 100000<;>cases tr (Inc l)<;>rfl
theorem Zgw (l:List Int) (hl:Len l):ZdC l=some (tr (ZdR l)):=by
  unfold ZdC;have h4:l.length<=4611686018427387904:=hl;rw[QC hl (λk x=>(0<=x/\x<=100000)/\(0<k->∀ y,l[k-1]?=some y->y<x)) (bad:=false) (good:=decide (1<=l.length/\l.length<=4))
    (λk x hx hk _=>by
      simp only[ZcD,show (k:Int)<(l.length:Int) from by omega,if_true,Zo,hx,Bq,ZcC];by_cases hw:within x 0 100000=true
      · rw[if_pos hw]
        by_cases h0:0<k
        · obtain ⟨y,hy⟩:∃ y,l[k-1]?=some y:=⟨_,List.getElem?_eq_getElem (by omega)⟩
          have e1:Wq ((k:Int)-1)=((k-1:Nat):Int):=by rw[YI (by omega) (by omega)];omega
          rw[if_pos (by omega),e1,Zo,hy,Bq];refine ⟨λh=>?_,λh=>?_⟩
          · rw[if_neg (by have:=h.2 h0 y rfl;omega)]
          · rw[if_pos]
            rcases Int.lt_or_le y x with h' | h'
            · exact absurd ⟨(within_iff _ _ _).1 hw,λ_ z hz=>by injection hz with hz;subst hz;exact h'⟩ h
            · exact h'
        · rw[if_neg (by omega)]
          exact ⟨λ_=>rfl,λh=>absurd ⟨(within_iff _ _ _).1 hw,λh'=>absurd h' h0⟩ h⟩
      · rw[if_neg hw]
        exact ⟨λh=>absurd ((within_iff _ _ _).2 h.1) hw,λ_=>rfl⟩)
    (λ_=>by
      simp only[ZcD,Int.lt_irrefl,if_false];by_cases h1:1<=l.length
      · rw[if_pos (by omega)]
        congr 2;rw[decide_eq_decide];omega
      · rw[if_neg (by omega)]
        simp[h1])]
  congr 1;refine Zc1 ?_;rw[YH];by_cases h:ZdQ l (λk x=>(0<=x/\x<=100000)/\(0<k->∀ y,l[k-1]?=some y->y<x))
  · rw[XV h,decide_eq_true_eq]
    constructor
    · rintro ⟨h1,h2⟩
      refine ⟨h1,h2,λx hx=>?_,λk x y hx hy=>?_⟩
      · obtain ⟨k,hk⟩:=List.mem_iff_getElem?.1 hx
        exact (h k x hk).1
      · exact (h (k+1) y hy).2 (by omega) x (by simpa using hx)
    · intro hh
      exact ⟨hh.1,hh.2.1⟩
  · rw[Xp h]
    constructor
    · intro hh;cases hh
    · intro hh
      refine absurd ?_ h;intro k x hk;refine ⟨hh.2.2.1 x (List.mem_of_getElem? hk),λh0 y hy=>?_⟩;exact hh.2.2.2 (k-1) y x hy (by rw[show k-1+1=k by omega];exact hk)
def Q0 (t:Zx):Prop:=ZdR (Zx.Zew t)/\ZdR (Zx.Loads t)/\(Zx.Values t).length=(Zx.Zew t).length*(Zx.Loads t).length/\Ze6 (Zx.Values t) (-1000000) 1000000
def Zwk (t:Zx):Prop:=Len (Zx.Zew t)/\Len (Zx.Loads t)/\Len (Zx.Values t)
theorem ZdR.mul {a b:List Int} (ha:ZdR a) (hb:ZdR b):a.length*b.length<=16:=by
  have h1:=ha.2.1;have h2:=hb.2.1
  calc a.length*b.length<=4*4:=Nat.mul_le_mul h1 h2
    _=16:=rfl
theorem ZpU {a b:List Int} (ha:ZdR a) (hb:ZdR b):Wq ((a.length:Int)*(b.length:Int))=((a.length*b.length:Nat):Int):=by
  have:=ha.mul hb;have e:(a.length:Int)*(b.length:Int)=((a.length*b.length:Nat):Int):=by simp
  rw[e,YI (by omega) (by omega)]
theorem Zkr (t:Zx) (h:Zwk t):ZeF t=some (tr (Q0 t)):=by
  unfold ZeF;rw[Zg0 _ h.1,Bq];by_cases h1:ZdR (Zx.Zew t)
  · rw[if_pos (ZU h1),Zg0 _ h.2.1,Bq]
    by_cases h2:ZdR (Zx.Loads t)
    · rw[if_pos (ZU h2),ZpU h1 h2]
      by_cases h3:(Zx.Values t).length=(Zx.Zew t).length*(Zx.Loads t).length
      · rw[if_pos (by rw[h3]),ZaS _ _ _ h.2.2,Bq]
        congr 1;refine Zc1 ?_;rw[Zhy,YH];exact ⟨λh4=>⟨h1,h2,h3,h4⟩,λh4=>h4.2.2.2⟩
      · rw[if_neg (by omega),Z4 (λhh=>h3 hh.2.2.1)]
    · rw[if_neg (by rw[Z4 h2];simp),Z4 (λhh=>h2 hh.2.1)]
  · rw[if_neg (by rw[Z4 h1];simp),Z4 (λhh=>h1 hh.1)]
theorem ZkV (t:Zx) (h:Zwk t):ZeP t=some (tr (Q0 t)):=by
  unfold ZeP;rw[Zgw _ h.1,Bq];by_cases h1:ZdR (Zx.Zew t)
  · rw[if_pos (ZU h1),Zgw _ h.2.1,Bq]
    by_cases h2:ZdR (Zx.Loads t)
    · rw[if_pos (ZU h2),ZpU h1 h2]
      by_cases h3:(Zx.Values t).length=(Zx.Zew t).length*(Zx.Loads t).length
      · rw[if_pos (by rw[h3]),QC h.2.2 (λk x=>-1000000<=x/\x<=1000000) (bad:=false) (good:=true)
          (λk x hx hk _=>by
            simp only[ZcA,show (k:Int)<((Zx.Values t).length:Int) from by omega,if_true,Zo,hx,Bq,ZcC,within_iff];exact ⟨λhh=>by rw[if_pos hh],λhh=>by rw[if_neg hh]⟩)
          (λ_=>by simp only[ZcA,Int.lt_irrefl,if_false]),Zfe]
        congr 1;refine QO ⟨λh4=>⟨h1,h2,h3,λx hx=>?_⟩,λh4 k x hx=>h4.2.2.2 x (List.mem_of_getElem? hx)⟩;obtain ⟨k,hk⟩:=List.mem_iff_getElem?.1 hx;exact h4 k x hk
      · rw[if_neg (by omega),Z4 (λhh=>h3 hh.2.2.1)]
    · rw[if_neg (by rw[Z4 h2];simp),Z4 (λhh=>h2 hh.2.1)]
  · rw[if_neg (by rw[Z4 h1];simp),Z4 (λhh=>h1 hh.1)]
theorem ZmX (x:Int) (l:List Int) (hl:Len (x::l)):QM (x::l)=some (l.foldl min x):=by
  unfold QM;have h4:(x::l).length<=4611686018427387904:=hl;have e1:¬(((x::l).length:Int)<1):=by simp only[List.length_cons];omega
  have e2:atI (x::l) (0:Int)=some x:=rfl;rw[if_neg e1,e2,Bq];refine Yv l.length (λk v=>v.1=(l.take k).foldl min x/\v.2.1=(((k+1:Nat)):Int)) _ ⟨by simp,rfl⟩ ?_ ?_
  · rintro k ⟨m,i,⟨⟩⟩ hk ⟨hm,hi⟩
    simp only at hm hi;subst hm;subst hi;have hx:l[k]?=some l[k]:=List.getElem?_eq_getElem hk;have hx1:(x::l)[k+1]?=some l[k]:=by simp
    simp only[QE,Zo,hx1,Bq,show ((k+1:Nat):Int)<((x::l).length:Int) from by simp;omega,if_true];refine .inl ⟨_,rfl,?_,?_⟩
    · rw[XR hx,List.foldl_append];rfl
    · simp only[List.length_cons] at h4
      show Wq (((k+1:Nat):Int)+1)=((k+1+1:Nat):Int);rw[YI (by omega) (by omega)];omega
  · rintro ⟨m,i,⟨⟩⟩ ⟨hm,hi⟩
    simp only at hm hi;subst hm;subst hi;rw[List.take_length];simp only[QE,show ¬(((l.length+1:Nat):Int)<((x::l).length:Int)) from by simp,if_false]
theorem ZhO (x:Int) (l:List Int):l.foldl min x<0<->x<0\/∃ y∈l,y<0:=by
  induction l generalizing x with
  | nil=>simp
  | cons y r ih =>
    simp only[List.foldl_cons,ih,List.mem_cons,exists_eq_or_imp];rw[show min x y<0<->x<0\/y<0 by omega,or_assoc]
def Za2 (l:List Zx) (pos:Bool):Prop:=l.length=2/\∀ t∈l,Q0 t/\(pos=true->∀ v∈Zx.Values t,0<=v)
theorem Q0.some {t:Zx} (h:Q0 t):∃ x l,Zx.Values t=x::l:=by
  have h1:=h.1.1;have h2:=h.2.1.1;have h3:=h.2.2.1;have:1*1<=(Zx.Zew t).length*(Zx.Loads t).length:=Nat.mul_le_mul h1 h2;cases hv:Zx.Values t with
  | nil=>rw[hv] at h3;simp at h3;omega
  | cons x l=>exact ⟨x,l,rfl⟩
theorem ZgP (t:Zx) (pos:Bool) (h:Zwk t):QW t pos=some (! tr (Q0 t/\(pos=true->∀ v∈Zx.Values t,0<=v))):=by
  unfold QW;rw[Zkr _ h,Bq];by_cases h1:Q0 t
  · rw[if_pos (ZU h1)]
    cases pos
    · rw[if_neg (by simp),ZU ⟨h1,λe=>by cases e⟩];rfl
    · obtain ⟨x,l,hv⟩:=h1.some
      have hlen:=h.2.2;rw[if_pos rfl,hv];rw[hv] at hlen;rw[ZmX x l hlen,Bq];congr 1;refine Zc1 ?_;rw[decide_eq_true_eq,ZhO,Bool.not_eq_true',<-Bool.not_eq_true,YH];constructor
      · rintro (hh | ⟨y,hy,hh⟩) ⟨_,hall⟩
        · have:=hall rfl x (by simp);omega
        · have:=hall rfl y (by simp[hy]);omega
      · intro hh
        apply Classical.byContradiction;intro hn;refine hh ⟨h1,λ_ v hvm=>?_⟩;rcases List.mem_cons.1 hvm with rfl | hvm
        · exact Int.not_lt.1 λhlt=>hn (.inl hlt)
        · exact Int.not_lt.1 λhlt=>hn (.inr ⟨v,hvm,hlt⟩)
  · rw[if_neg (by rw[Z4 h1];simp),Z4 (λhh=>h1 hh.1)];rfl
def Zvi (l:List Zx):Prop:=Len l/\∀ t∈l,Zwk t
theorem Zc2 (l:List Zx) (pos:Bool) (h:Zvi l):J2 l pos=some (tr (Za2 l pos)):=by
  unfold J2;by_cases h2:l.length=2
  · rw[if_pos (by omega),XP h.1 (λt=>! tr (Q0 t/\(pos=true->∀ v∈Zx.Values t,0<=v))) (λt ht=>ZgP t pos (h.2 t ht)),Bq]
    congr 1;refine Zc1 ?_;rw[Bool.not_eq_true',List.any_eq_false,YH];simp only[Bool.not_eq_true',Bool.not_eq_false,YH,Bool.not_eq_true];exact ⟨λhh=>⟨h2,hh⟩,λhh=>hh.2⟩
  · rw[if_neg (by omega),Z4 (λhh=>h2 hh.1)]
theorem ZgH {α τ ρ:Type} {l:List α} (pk:Nat->τ) (P:Nat->α->Prop) {step:τ->Option (τ ⊕ ρ)} {bad good:ρ}
    (hs:∀ (k:Nat) (x:α),l[k]?=some x->k<l.length->(∀ (j:Nat) (y:α),j<k->l[j]?=some y->P j y)->(P k x->step (pk k)=some (.inl (pk (k+1))))/\(¬P k x->step (pk k)=some (.inr bad)))
    (hx:ZdQ l P->step (pk l.length)=some (.inr good)):Zp step (pk 0)=some (sel (ZdQ l P) good bad):=by
  refine Yv l.length (λk v=>v=pk k/\∀ (j:Nat) (y:α),j<k->l[j]?=some y->P j y) _ ⟨rfl,λj y hj=>by omega⟩ ?_ ?_
  · rintro k v hk ⟨rfl,hS⟩
    have hx:l[k]?=some l[k]:=List.getElem?_eq_getElem hk;obtain ⟨h1,h2⟩:=hs k _ hx hk hS;by_cases hP:P k l[k]
    · refine .inl ⟨_,h1 hP,rfl,λj y hj hy=>?_⟩
      by_cases hjk:j<k
      · exact hS j y hjk hy
      · have:j=k:=by omega
        subst this;rw[hx] at hy;injection hy with hy;subst hy
        exact hP
    · right
      rw[h2 hP,Xp (λh=>hP (h k _ hx))]
  · rintro v ⟨rfl,hS⟩
    have hA:ZdQ l P:=λk x hk=>hS k x (List.getElem?_eq_some_iff.1 hk).1 hk;rw[hx hA,XV hA]
theorem JF {α τ ρ:Type} {l:List α} (pk:Nat->τ) {step:τ->Option (τ ⊕ ρ)} {good:ρ}
    (hs:∀ (k:Nat) (x:α),l[k]?=some x->k<l.length->step (pk k)=some (.inl (pk (k+1)))) (hx:step (pk l.length)=some (.inr good)):Zp step (pk 0)=some good:=by
  have:=ZgH (l:=l) pk (λ_ _=>True) (step:=step) (bad:=good) (good:=good) (λk x h1 h2 _=>⟨λ_=>hs k x h1 h2,λh=>absurd trivial h⟩) (λ_=>hx);rw[this,XV (show ZdQ l (λ_ _=>True) from λ_ _ _=>trivial)]
theorem ZkE {ρ:Type} (n:Nat) (hn:n<=4611686018427387904) (P:Nat->Prop) {step:Int×Unit->Option ((Int×Unit) ⊕ ρ)} {bad good:ρ}
    (hs:∀ k:Nat,k<n->(P k->step ((k:Int),())=some (.inl (Wq ((k:Int)+1),())))/\(¬P k->step ((k:Int),())=some (.inr bad)))
    (hx:(∀ j,j<n->P j)->step ((n:Int),())=some (.inr good)):Zp step ((0:Int),())=some (sel (∀ j,j<n->P j) good bad):=by
  have:=ZpP (ρ:=ρ) 0 n (by omega) hn P (step:=step) (bad:=bad) (good:=good) (λk _ h _=>hs k h) (λh=>hx (λj hj=>h j (by omega) hj));refine (show Zp step ((0:Int),())=_ from this).trans ?_;congr 1;have e:(∀ j,0<=j->j<n->P j)<->(∀ j,j<n->P j):=⟨λh j hj=>h j (by omega) hj,λh j _ hj=>h j hj⟩;rw[propext e]
theorem XO {t:Ty} {l:List t.den} (h:sm (.sl t) l):Len l:=by
  have h1:(l.length:Int)<=1048576:=h.1;show l.length<=4611686018427387904;omega
theorem Zfh {s:List UInt8} (h:sm .str s):s.length<=4611686018427387904:=by
  have h1:(s.length:Int)<=1048576:=h;omega
theorem Zn4 {t:Ty} {l:List t.den} (h:sm (.sl t) l) {x:t.den} (hx:x∈l):sm t x:=h.2 x hx
theorem Zf4 {t:Ty} {l:List t.den} (h:sm (.sl t) l) {k:Nat} {x:t.den} (hx:l[k]?=some x):sm t x:=h.2 x (List.mem_of_getElem? hx)
theorem ZF {t:Ty} {l:List t.den} (h:sm (.sl t) l):l.length<=1048576:=by
  have h1:(l.length:Int)<=1048576:=h.1;omega
theorem Zq5 {t:Zx} (h:sm JX t):Zwk t:=⟨XO (t:=.int .i64) h.1,XO (t:=.int .i64) h.2.1,XO (t:=.int .i64) h.2.2.1⟩
theorem ZfU {l:List Zx} (h:sm (.sl JX) l):Zvi l:=⟨XO h,λt ht=>Zq5 (Zn4 h ht)⟩
theorem Zhq (t:Zx) (h:Zwk t):∃ r,Zby t=some r/\(Q0 t->r.2=0/\(r.1.1<0<->∃ v∈Zx.Values t,v<0))/\(¬Q0 t->r.2=1):=by
  unfold Zby
  rw[ZkV _ h,Bq];by_cases h1:Q0 t
  · rw[if_pos (ZU h1)]
    obtain ⟨x,l,hv⟩:=h1.some;have h4:(x::l).length<=4611686018427387904:=by rw[<-hv];exact h.2.2
    have e2:atI (Zx.Values t) (0:Int)=some x:=by rw[hv];rfl
    rw[e2,Bq];have:=JF (l:=l) (ρ:=Zv×Int) (λk=>((((k+1:Nat)):Int),(l.take k).foldl min x,(l.take k).foldl max x,())) (step:=λv=>Vg t v.1 v.2.1 v.2.2.1) (good:=((l.foldl min x,l.foldl max x,()),0))
      (λk y hy hk=>by
        have hx1:(x::l)[k+1]?=some y:=by simpa using hy
        simp only[List.length_cons] at h4;simp only[Vg,hv,Zo,hx1,Bq,show ((k+1:Nat):Int)<((x::l).length:Int) from by simp;omega,if_true];rw[XR hy,List.foldl_append,List.foldl_append,YI (by omega) (by omega)];rfl)
      (by
        simp only[Vg,hv,List.take_length,show ¬(((l.length+1:Nat):Int)<((x::l).length:Int)) from by simp,if_false])
    refine ⟨_,this,λ_=>⟨rfl,?_⟩,λhn=>absurd h1 hn⟩;rw[hv];refine (ZhO x l).trans ?_;simp
  · rw[if_neg (by rw[Z4 h1];simp)]
    exact ⟨_,rfl,λhn=>absurd hn h1,λ_=>rfl⟩
theorem Zdd (l:List Zx) (pos:Bool) (h:Zvi l):Yp l pos=some (tr (Za2 l pos)):=by
  unfold Yp;by_cases h2:l.length=2
  · rw[if_pos (by omega),QC h.1 (λk t=>Q0 t/\(pos=true->∀ v∈Zx.Values t,0<=v)) (bad:=false) (good:=true)
      (λk t hx hk _=>by
        obtain ⟨r,hr,hr1,hr2⟩:=Zhq t (h.2 t (List.mem_of_getElem? hx));simp only[Za9,show (k:Int)<2 from by omega,if_true,Zo,hx,Bq,hr];by_cases ht:Q0 t
        · obtain ⟨e1,e2⟩:=hr1 ht
          rw[if_pos e1];cases pos
          · simp only[Bool.false_eq_true,if_false]
            exact ⟨λ_=>trivial,λhn=>absurd ⟨ht,λe=>by cases e⟩ hn⟩
          · simp only[if_true]
            refine ⟨λhh=>?_,λhn=>?_⟩
            · rw[if_neg]
              intro hlt;obtain ⟨v,hv,hv0⟩:=e2.1 hlt;have:=hh.2 trivial v hv;omega
            · rw[if_pos]
              apply Classical.byContradiction;intro hlt;refine hn ⟨ht,λ_ v hv=>?_⟩;exact Int.not_lt.1 λhv0=>hlt (e2.2 ⟨v,hv,hv0⟩)
        · have e1:=hr2 ht
          rw[if_neg (by rw[e1];decide)];exact ⟨λhh=>absurd hh.1 ht,λ_=>rfl⟩)
      (λ_=>by simp only[Za9,h2];rfl),Zfe]
    congr 1;refine QO ⟨λhh=>⟨h2,λt ht=>?_⟩,λhh k t hk=>hh.2 t (List.mem_of_getElem? hk)⟩;obtain ⟨k,hk⟩:=List.mem_iff_getElem?.1 ht;exact hh k t hk
  · rw[if_neg (by omega),Z4 (λhh=>h2 hh.1)]
def ZdB (l:List Y7):List (List UInt8):=l.map Y7.Name
def ZjF (l:List Y7):Nat:=l.countP (λp=>Y7.Clock p)
def Zne (n k:Nat) (p:Y7):Prop:=(0<=Y7.Cap p/\Y7.Cap p<=500)/\(k+1=n->Y7.Dir p=2/\Y7.Cap p=0/\Y7.Clock p=false)/\(k+1<n->Y7.Dir p=1)
def ZgT (l:List Y7):Prop:=2<=l.length/\l.length<=5/\Vi (ZdB l) l.length/\ZdQ l (Zne l.length)
theorem Zkt (l:List Y7) (h:sm (.sl Zm4) l):ZeG l=some (tr (ZgT l)):=by
  unfold ZeG;have hs:=ZF h;have:=ZgH (l:=l) (ρ:=Bool) (λk=>((ZdB l).take k,(k:Int),())) (Zne l.length) (step:=λv=>Vy l v.1 v.2.1) (bad:=false) (good:=tr (2<=l.length/\l.length<=5/\Vi (ZdB l) l.length))
    (λk p hx hk _=>by
      have hn:(ZdB l)[k]?=some (Y7.Name p):=by simp[ZdB,hx]
      have e1:Wq ((l.length:Int)-1)=((l.length-1:Nat):Int):=by rw[YI (by omega) (by omega)];omega
      simp only[Vy,show (k:Int)<(l.length:Int) from by omega,if_true,Zo,hx,Bq,e1];rw[Zn (by simp only[List.length_take,List.length_singleton,ZdB,List.length_map];omega),XR hn,YI (by omega) (by omega)];unfold Zne;by_cases hlast:(k:Int)=((l.length-1:Nat):Int)
      · rw[if_pos hlast]
        have hk1:k+1=l.length:=by omega
        constructor
        · rintro ⟨_,h2,_⟩
          obtain ⟨a,b,c⟩:=h2 hk1;rw[if_pos a,if_pos b,if_neg (by rw[c];simp)];rfl
        · intro hh
          split
          · split
            · split
              · rfl
              · rename_i a b c
                exact absurd ⟨by omega,λ_=>⟨a,b,by simpa using c⟩,λh'=>by omega⟩ hh
            · rfl
          · rfl
      · rw[if_neg hlast,J3]
        have hk1:k+1<l.length:=by omega
        simp only[Bq,within_iff];constructor
        · rintro ⟨h1,_,h3⟩
          rw[if_pos (h3 hk1),if_pos h1];rfl
        · intro hh
          split
          · split
            · rename_i a b
              exact absurd ⟨b,λh'=>by omega,λ_=>a⟩ hh
            · rfl
          · rfl)
    (λhA=>by
      have e0:(ZdB l).take l.length=ZdB l:=by rw[show l.length=(ZdB l).length by simp[ZdB],List.take_length]
      simp only[Vy,Int.lt_irrefl,if_false,e0,J3,Bq,show V5 l=some (l.length:Int) from rfl];have hlen:(ZdB l).length=l.length:=by simp[ZdB]
      by_cases hw:within (l.length:Int) 2 5=true
      · rw[if_pos hw,JR _ (by rw[hlen];omega),Bq,hlen]
        rw[within_iff] at hw;congr 2;exact QO ⟨λhh=>⟨by omega,by omega,hh⟩,λhh=>hh.2.2⟩
      · rw[if_neg hw,Z4]
        intro hh;exact hw ((within_iff _ _ _).2 (by omega)))
  refine (show Zp (λv=>Vy l v.1 v.2.1) (([]:List (List UInt8)),(0:Int),())=_ from this).trans ?_;congr 1;refine Zc1 ?_;rw[YH];by_cases hA:ZdQ l (Zne l.length)
  · rw[XV hA,YH]
    exact ⟨λhh=>⟨hh.1,hh.2.1,hh.2.2,hA⟩,λhh=>⟨hh.1,hh.2.1,hh.2.2.1⟩⟩
  · rw[Xp hA]
    exact ⟨λhh=>(by cases hh),λhh=>absurd hh.2.2.2 hA⟩
theorem ZgW {n:Nat} (h:n<=1048576) (h1:1<=n):Wq ((n:Int)-1)=((n-1:Nat):Int):=by rw[YI (by omega) (by omega)];omega
theorem Y8 {n:Nat} (h:n<=1048576):Wq ((n:Int)+1)=((n+1:Nat):Int):=by rw[YI (by omega) (by omega)];omega
theorem Zg3 {l:List Y7} {k:Nat} {s:List UInt8}:s ∉ (ZdB l).take k<->∀ (j:Nat) (q:Y7),j<k->l[j]?=some q->Y7.Name q≠s:=by
  constructor
  · intro h j q hj hq e
    refine h (List.mem_iff_getElem?.2 ⟨j,?_⟩);rw[List.getElem?_take,if_pos hj];simp[ZdB,hq,e]
  · intro h hm
    obtain ⟨j,hj⟩:=List.mem_iff_getElem?.1 hm;rw[List.getElem?_take] at hj;split at hj
    · rename_i hjk
      simp only[ZdB,List.getElem?_map,Option.map_eq_some_iff] at hj;obtain ⟨q,hq,e⟩:=hj;exact h j q hjk hq e
    · cases hj
theorem ZkX (c:Zl) (h:sm (.sl Zm4) (Zl.YD c)):ZeS c=some (sel (ZgT (Zl.YD c)) ((ZjF (Zl.YD c):Int),true) ((0:Int),false)):=by
  unfold ZeS;have hs:=ZF h;by_cases h2:((Zl.YD c).length:Int)<2
  · rw[if_pos h2,Xp (λhh=>by have:=hh.1;omega)]
  by_cases h5:(5:Int)<((Zl.YD c).length:Int)
  · rw[if_neg h2,if_pos h5,Xp (λhh=>by have:=hh.2.1;omega)]
  rw[if_neg h2,if_neg h5];have e1:Wq (((Zl.YD c).length:Int)-1)=(((Zl.YD c).length-1:Nat):Int):=ZgW hs (by omega);have:=ZgH (l:=Zl.YD c) (ρ:=Int×Bool) (λk=>((((Zl.YD c).take k).countP (λp=>Y7.Clock p):Int),(k:Int),()))
    (λk p=>(JU (Y7.Name p)=true/\∀ (j:Nat) (q:Y7),j<k->(Zl.YD c)[j]?=some q->Y7.Name q≠Y7.Name p)/\Zne (Zl.YD c).length k p) (step:=λv=>VK c v.1 v.2.1) (bad:=((0:Int),false)) (good:=((ZjF (Zl.YD c):Int),true))
    (λk p hx hk _=>by
      have hcnt:((Zl.YD c).take k).countP (λp=>Y7.Clock p)<=5:=by
        have h1:=List.countP_le_length (p:=λp=>Y7.Clock p) (l:=(Zl.YD c).take k);rw[List.length_take] at h1;omega
      have hnext:((Zl.YD c).take (k+1)).countP (λp=>Y7.Clock p)=((Zl.YD c).take k).countP (λp=>Y7.Clock p)+if Y7.Clock p=true then 1 else 0:=by
        rw[XR hx,List.countP_append];simp[List.countP_cons]
      have hname:(Y7.Name p).length<=4611686018427387904:=Zfh (Zf4 h hx).1;have rest:∀ (v:Int),Qz c v (k:Int) p (k:Int)=sel (JU (Y7.Name p)=true/\Zne (Zl.YD c).length k p) (some (Sum.inr (Sum.inl (if Y7.Clock p=true then Wq (v+1) else v,((k+1:Nat):Int),())))) (some (Sum.inr (Sum.inr (0,false)))):=by
        intro v;simp only[Qz,Int.lt_irrefl,if_false,ZcH _ hname,ZcC,Bq,e1,Y8 (show k<=1048576 by omega),within_iff];unfold Zne;by_cases hn:JU (Y7.Name p)=true
        · by_cases hcap:0<=Y7.Cap p/\Y7.Cap p<=500
          · by_cases hlast:k+1=(Zl.YD c).length
            · have e2:(k:Int)=(((Zl.YD c).length-1:Nat):Int):=by omega
              have e3:¬((k:Int)<(((Zl.YD c).length-1:Nat):Int)):=by omega
              have e4:¬(k+1<(Zl.YD c).length):=by omega
              rw[if_pos hn,if_pos hcap,if_pos e2];by_cases a:Y7.Dir p=2
              · by_cases b:Y7.Cap p=0
                · by_cases d:Y7.Clock p=true
                  · rw[if_pos a,if_pos b,if_pos d,Xp]
                    rintro ⟨_,_,h',_⟩;have:=(h' hlast).2.2;rw[d] at this;cases this
                  · rw[if_pos a,if_pos b,if_neg d,if_neg e3,if_neg d,XV ⟨hn,hcap,λ_=>⟨a,b,by simpa using d⟩,λh'=>absurd h' e4⟩]
                    simp[d]
                · rw[if_pos a,if_neg b,Xp]
                  rintro ⟨_,_,h',_⟩;exact b (h' hlast).2.1
              · rw[if_neg a,Xp]
                rintro ⟨_,_,h',_⟩;exact a (h' hlast).1
            · have e2:¬(k:Int)=(((Zl.YD c).length-1:Nat):Int):=by omega
              have e3:(k:Int)<(((Zl.YD c).length-1:Nat):Int):=by omega
              have e4:k+1<(Zl.YD c).length:=by omega
              rw[if_pos hn,if_pos hcap,if_neg e2,if_pos e3];by_cases a:Y7.Dir p=1
              · rw[if_pos a,XV ⟨hn,hcap,λh'=>absurd h' hlast,λ_=>a⟩]
                by_cases d:Y7.Clock p=true
                · rw[if_pos d,if_pos d]
                · rw[if_neg d,if_neg d]
              · rw[if_neg a,Xp]
                rintro ⟨_,_,_,h'⟩;exact a (h' e4)
          · rw[if_pos hn,if_neg hcap,Xp (λhh=>hcap hh.2.1)]
        · rw[if_neg hn,Xp (λhh=>hn hh.1)]
      have inner:∀ (v:Int) (good:(Int×Int×Unit) ⊕ (Int×Bool)),((∀ (j:Nat) (q:Y7),j<k->(Zl.YD c)[j]?=some q->Y7.Name q≠Y7.Name p)->Qz c v (k:Int) p (k:Int)=some (.inr good))->
          Zp (λv'=>Qz c v (k:Int) p v'.1) ((0:Int),())=some (sel (∀ j,j<k->∀ q,(Zl.YD c)[j]?=some q->Y7.Name q≠Y7.Name p) good (.inr (0,false))):=by
        intro v good hg;refine ZkE k (by omega) (λj=>∀ q,(Zl.YD c)[j]?=some q->Y7.Name q≠Y7.Name p) (λj hj=>?_) (λhh=>hg (λj q hj hq=>hh j hj q hq));obtain ⟨q,hq⟩:∃ q,(Zl.YD c)[j]?=some q:=⟨_,List.getElem?_eq_getElem (by omega)⟩;simp only[Qz,show (j:Int)<(k:Int) from by omega,if_true,Zo,hq,Bq];refine ⟨λhh=>by rw[if_neg (hh q rfl)],λhh=>?_⟩;rw[if_pos];apply Classical.byContradiction;intro hne;exact hh (λq' hq'=>by injection hq' with hq';subst hq';exact hne)
      simp only[VK,show (k:Int)<((Zl.YD c).length:Int) from by omega,if_true,Zo,hx,Bq];constructor
      · rintro ⟨⟨a,b⟩,d⟩
        rw[inner _ (.inl (((((Zl.YD c).take (k+1)).countP (λp=>Y7.Clock p):Nat):Int),((k+1:Nat):Int),())) (λ_=>by
          rw[rest,XV ⟨a,d⟩,hnext];by_cases hc:Y7.Clock p=true
          · rw[if_pos hc,if_pos hc,Y8 (by omega)]
          · rw[if_neg hc,if_neg hc];rfl),XV (λj hj q hq=>b j q hj hq)]
      · intro hh
        rw[inner _ (.inr (0,false)) (λhn=>by
          rw[rest,Xp (λh'=>hh ⟨⟨h'.1,hn⟩,h'.2⟩)])]
        by_cases hP:∀ j,j<k->∀ q,(Zl.YD c)[j]?=some q->Y7.Name q≠Y7.Name p
        · rw[XV hP]
        · rw[Xp hP])
    (λ_=>by simp only[VK,Int.lt_irrefl,if_false,List.take_length];rfl)
  refine (show Zp (λv=>VK c v.1 v.2.1) ((0:Int),(0:Int),())=_ from this).trans ?_;congr 1;have e:ZdQ (Zl.YD c) (λk p=>(JU (Y7.Name p)=true/\∀ (j:Nat) (q:Y7),j<k->(Zl.YD c)[j]?=some q->Y7.Name q≠Y7.Name p)/\Zne (Zl.YD c).length k p)<->ZgT (Zl.YD c):=by
    constructor
    · intro hA
      refine ⟨by omega,by omega,λj s hj hs'=>?_,λk p hp=>(hA k p hp).2⟩;simp only[ZdB,List.getElem?_map,Option.map_eq_some_iff] at hs';obtain ⟨q,hq,rfl⟩:=hs';exact ⟨(hA j q hq).1.1,Zg3.2 (hA j q hq).1.2⟩
    · intro hh k p hp
      have hk:=(List.getElem?_eq_some_iff.1 hp).1;have hn:=hh.2.2.1 k (Y7.Name p) hk (by simp[ZdB,hp]);exact ⟨⟨hn.1,Zg3.1 hn.2⟩,hh.2.2.2 k p hp⟩
  rw[propext e]
def Zml (l:List Y7) (i:Int):Bool:=match l[i.toNat]? with
  | some p=>Y7.Clock p
  | none=>false
def Zid (c:Zl) (a:ZB):Prop :=
  (0<=ZB.From a/\ZB.From a<=((Zl.YD c).length:Int)-2)/\(0<=ZB.To a/\ZB.To a<=((Zl.YD c).length:Int)-1)/\
  ((ZB.Kind a=1/\Zml (Zl.YD c) (ZB.From a)=false/\ZB.To a=((Zl.YD c).length:Int)-1/\(1<=ZB.V8 a/\ZB.V8 a<=3)/\Za2 (ZB.Delay a) true/\Za2 (ZB.Xx a) true)\/
   ((ZB.Kind a=2\/ZB.Kind a=3)/\Zml (Zl.YD c) (ZB.From a)=true/\ZB.To a=((Zl.YD c).length:Int)-1/\ZB.V8 a=0/\Za2 (ZB.Delay a) true/\Za2 (ZB.Xx a) true)\/
   ((ZB.Kind a=4\/ZB.Kind a=5)/\Zml (Zl.YD c) (ZB.From a)=true/\ZB.To a<((Zl.YD c).length:Int)-1/\Zml (Zl.YD c) (ZB.To a)=false/\ZB.V8 a=0/\Za2 (ZB.Delay a) false/\(ZB.Xx a).length=0))
theorem Zid.kind {c:Zl} {a:ZB} (h:Zid c a):1<=ZB.Kind a/\ZB.Kind a<=5:=by
  rcases h.2.2 with h | h | h
  · have:=h.1;omega
  · have:=h.1;omega
  · have:=h.1;omega
theorem YS {P Q:Prop} {_:Decidable P} {m:Option Bool} (hm:P->m=some (tr Q)):(if P then m else some false)=some (tr (P/\Q)):=by
  by_cases h:P
  · rw[if_pos h,hm h];congr 1;exact QO ⟨λq=>⟨h,q⟩,λq=>q.2⟩
  · rw[if_neg h,Z4 (λq=>h q.1)]
theorem Zfl {P Q:Prop} {_:Decidable P} {m:Option Bool} (hm:¬P->m=some (tr Q)):(if P then some false else m)=some (tr (¬P/\Q)):=by
  by_cases h:P
  · rw[if_pos h,Z4 (λq=>q.1 h)]
  · rw[if_neg h,hm h];congr 1;exact QO ⟨λq=>⟨h,q⟩,λq=>q.2⟩
theorem ZcY {P:Prop} {b:Bool} (h:b=true<->P):some b=some (tr P):=by rw[ZlA h]
theorem ZdY {m:Option Bool} {P Q:Prop} (h:m=some (tr P)) (hpq:P<->Q):m=some (tr Q):=by rw[h,propext hpq]
theorem Zl2 {Q:Prop} (h:¬Q):(some false:Option Bool)=some (tr Q):=by rw[Z4 h]
theorem Zb9 {P:Prop} {m:Option Bool} (h:m=some (tr P)):(m.bind λb=>some b)=some (tr P):=by rw[h];rfl
theorem YT {P Q:Prop} {m m2:Option Bool} (h:m=some (tr P)) (h2:P->m2=some (tr Q)):(m.bind λb=>if b=true then m2 else some false)=some (tr (P/\Q)):=by
  rw[h,Bq];by_cases hp:P
  · rw[if_pos (ZU hp),h2 hp];congr 1;exact QO ⟨λq=>⟨hp,q⟩,λq=>q.2⟩
  · rw[if_neg (by rw[Z4 hp];simp),Z4 (λq=>hp q.1)]
theorem JD (n a b:Int):Yq n a b=some (tr (a<=n/\n<=b)):=by rw[ZcC];exact ZcY (within_iff _ _ _)
theorem Jm (n a b:Int):YF n a b=some (tr (a<=n/\n<=b)):=by rw[J3];exact ZcY (within_iff _ _ _)
theorem Zsq {l:List Y7} {i:Int} (h0:0<=i) (h1:i<l.length):∃ p,atI l i=some p/\Zml l i=Y7.Clock p:=by
  obtain ⟨p,h2,h3⟩:=ZlH h0 h1;exact ⟨p,h2,by simp[Zml,h3]⟩
theorem Zlu (c:Zl) (a:ZB) (hp:sm (.sl Zm4) (Zl.YD c)) (hd:sm (.sl JX) (ZB.Delay a)) (hw:sm (.sl JX) (ZB.Xx a)) (h2:2<=(Zl.YD c).length):ZfM c a=some (tr (Zid c a)):=by
  unfold ZfM;have hs:=ZF hp;have e1:Wq (((Zl.YD c).length:Int)-1)=((Zl.YD c).length:Int)-1:=YI (by omega) (by omega);have e2:Wq (((Zl.YD c).length:Int)-1-1)=((Zl.YD c).length:Int)-2:=by rw[YI (by omega) (by omega)];omega
  rw[e1,e2];refine ZdY (YT (JD _ _ _) (λhF=>YT (JD _ _ _) (λhT=>?_))) (Q:=Zid c a) (P:=(0<=ZB.From a/\ZB.From a<=((Zl.YD c).length:Int)-2)/\(0<=ZB.To a/\ZB.To a<=((Zl.YD c).length:Int)-1)/\Zid c a) ⟨λhh=>hh.2.2,λhh=>⟨hh.1,hh.2.1,hh⟩⟩;obtain ⟨p,hp1,hp2⟩:=Zsq (l:=Zl.YD c) hF.1 (by omega);rw[hp1,Bq];have hdl:=ZfU hd;have hsl:=ZfU hw;have tt:∀ b,(Yp (ZB.Delay a) b).bind (λx=>if x=true then (Yp (ZB.Xx a) b).bind (λy=>some y) else some false)=some (tr (Za2 (ZB.Delay a) b/\Za2 (ZB.Xx a) b)):=λb=>YT (Zdd _ _ hdl) (λ_=>Zb9 (Zdd _ _ hsl));have tz:(Yp (ZB.Delay a) false).bind (λx=>if x=true then some (Decidable.decide (((ZB.Xx a).length:Int)=(0:Int))) else some false)=some (tr (Za2 (ZB.Delay a) false/\(ZB.Xx a).length=0)):=YT (Zdd _ _ hdl) (λ_=>ZcY (by rw[decide_eq_true_eq];omega));unfold Zid;rw[hp2];by_cases k1:ZB.Kind a=1
  · simp only[k1,if_true]
    refine ZdY (Zfl (λhc=>YS (λhl=>YT (JD _ _ _) (λ_=>tt true)))) ?_;grind
  by_cases k2:ZB.Kind a=2
  · simp only[k2,if_true,Int.reduceEq,if_false]
    refine ZdY (YS (λhc=>YS (λhl=>YS (λ_=>tt true)))) ?_;grind
  by_cases k3:ZB.Kind a=3
  · simp only[k3,if_true,Int.reduceEq,if_false]
    refine ZdY (YS (λhc=>YS (λhl=>YS (λ_=>tt true)))) ?_;grind
  have chk:(if Y7.Clock p=true then (if ZB.To a<((Zl.YD c).length:Int)-1 then (atI (Zl.YD c) (ZB.To a)).bind (λx1=>if Y7.Clock x1=true then some false else if ZB.V8 a=0 then (Yp (ZB.Delay a) false).bind (λx=>if x=true then some (Decidable.decide (((ZB.Xx a).length:Int)=(0:Int))) else some false) else some false) else some false) else some false) =
      some (tr (Y7.Clock p=true/\ZB.To a<((Zl.YD c).length:Int)-1/\Zml (Zl.YD c) (ZB.To a)=false/\ZB.V8 a=0/\Za2 (ZB.Delay a) false/\(ZB.Xx a).length=0)):=by
    refine YS (λ_=>YS (λhl=>?_));obtain ⟨q,hq1,hq2⟩:=Zsq (l:=Zl.YD c) hT.1 (by omega);rw[hq1,Bq,hq2];refine ZdY (Zfl (λ_=>YS (λ_=>tz))) ?_;simp only[Bool.not_eq_true]
  by_cases k4:ZB.Kind a=4
  · simp only[k4,if_true,Int.reduceEq,if_false]
    refine ZdY chk ?_;grind
  by_cases k5:ZB.Kind a=5
  · simp only[k5,if_true,Int.reduceEq,if_false]
    refine ZdY chk ?_;grind
  · simp only[k1,k2,k3,k4,k5,if_false]
    refine Zl2 ?_;grind
def Zgg (l:List Y7):Int:=Zb3 (λp=>Y7.Clock p) l
theorem ZhR (c:Zl) (h:sm (.sl Zm4) (Zl.YD c)):Zcf c=some (Zgg (Zl.YD c)):=by
  unfold Zcf;rw[Qh (XO h) (λp=>Y7.Clock p) (λp _=>rfl),Bq];rfl
theorem ZbC (c:Zl) (h:sm (.sl Zm4) (Zl.YD c)):JQ c=some (((Zl.YD c).length:Int)-1):=by
  have hs:=ZF h;show some (Wq (((Zl.YD c).length:Int)-1))=_;rw[YI (by omega) (by omega)]
theorem ZdT (c:Zl) (i:Int) (h:sm (.sl Zm4) (Zl.YD c)):Ja c i=some (tr (0<=i/\i<=((Zl.YD c).length:Int)-2)):=by
  have hs:=ZF h;unfold Ja;rw[ZbC c h,Bq,YI (by omega) (by omega)];refine ZdY (Zb9 (Jm _ _ _)) ?_;omega
def Ztf (c:Zl) (a:ZB):Prop :=
  ((ZB.Kind a=4\/ZB.Kind a=5)/\ZB.V8 a=0/\(ZB.Xx a).length=0/\Za2 (ZB.Delay a) false/\ZB.From a=Zgg (Zl.YD c)/\0<=ZB.From a/\(0<=ZB.To a/\ZB.To a<=((Zl.YD c).length:Int)-2)/\ZB.To a≠ZB.From a)\/
  (¬(ZB.Kind a=4\/ZB.Kind a=5)/\Za2 (ZB.Delay a) true/\Za2 (ZB.Xx a) true/\ZB.To a=((Zl.YD c).length:Int)-1/\(0<=ZB.From a/\ZB.From a<=((Zl.YD c).length:Int)-2)/\
    ((ZB.Kind a=1/\Zml (Zl.YD c) (ZB.From a)=false/\(1<=ZB.V8 a/\ZB.V8 a<=3))\/((ZB.Kind a=2\/ZB.Kind a=3)/\Zml (Zl.YD c) (ZB.From a)=true/\ZB.V8 a=0)))
theorem Zku (k:Int):ZeI k=some (tr (k=4\/k=5)):=by
  unfold ZeI;split
  · rename_i h;rw[ZU (.inl h)]
  · rename_i h
    exact ZcY (by rw[decide_eq_true_eq];omega)
theorem Zmw (c:Zl) (a:ZB) (hp:sm (.sl Zm4) (Zl.YD c)) (hd:sm (.sl JX) (ZB.Delay a)) (hw:sm (.sl JX) (ZB.Xx a)):Zch c a=some (tr (Ztf c a)):=by
  unfold Zch;have hdl:=ZfU hd;have hsl:=ZfU hw;rw[Zku,Bq];by_cases hk:ZB.Kind a=4\/ZB.Kind a=5
  · rw[if_pos (ZU hk)]
    refine ZdY (YS (λ_=>YS (λ_=>YT (Zc2 _ _ hdl) (λ_=>?_)))) (P:=ZB.V8 a=0/\((ZB.Xx a).length:Int)=0/\Za2 (ZB.Delay a) false/\(ZB.From a=Zgg (Zl.YD c)/\0<=ZB.From a/\(0<=ZB.To a/\ZB.To a<=((Zl.YD c).length:Int)-2)/\ZB.To a≠ZB.From a)) ?_
    · rw[ZhR c hp,Bq]
      refine YS (λ_=>YS (λ_=>YT (ZdT c _ hp) (λ_=>ZcY ?_)));rw[Bool.not_eq_true',decide_eq_false_iff_not]
    · unfold Ztf
      constructor
      · rintro ⟨x1,x2,x3,x4⟩
        exact .inl ⟨hk,x1,by omega,x3,x4⟩
      · rintro (⟨_,x1,x2,x3,x4⟩ | ⟨x,_⟩)
        · exact ⟨x1,by omega,x3,x4⟩
        · exact absurd hk x
  · rw[if_neg (by rw[Z4 hk];simp)]
    refine ZdY (YT (Zc2 _ _ hdl) (λ_=>YT (Zc2 _ _ hsl) (λ_=>?_))) (P:=Za2 (ZB.Delay a) true/\Za2 (ZB.Xx a) true/\(ZB.To a=((Zl.YD c).length:Int)-1/\(0<=ZB.From a/\ZB.From a<=((Zl.YD c).length:Int)-2)/\
      ((ZB.Kind a=1/\Zml (Zl.YD c) (ZB.From a)=false/\(1<=ZB.V8 a/\ZB.V8 a<=3))\/((ZB.Kind a=2\/ZB.Kind a=3)/\Zml (Zl.YD c) (ZB.From a)=true/\ZB.V8 a=0)))) ?_
    · rw[ZbC c hp,Bq]
      refine YS (λ_=>YT (ZdT c _ hp) (λhF=>?_));obtain ⟨p,hp1,hp2⟩:=Zsq (l:=Zl.YD c) hF.1 (by omega);rw[hp1,hp2];simp only[Bq];by_cases k1:ZB.Kind a=1
      · simp only[k1,if_true]
        refine ZdY (Zfl (λ_=>Zb9 (Jm _ _ _))) ?_;grind
      by_cases k2:ZB.Kind a=2
      · simp only[k2,if_true,Int.reduceEq,if_false]
        refine ZdY (YS (λ_=>ZcY (decide_eq_true_iff))) ?_;grind
      by_cases k3:ZB.Kind a=3
      · simp only[k3,if_true,Int.reduceEq,if_false]
        refine ZdY (YS (λ_=>ZcY (decide_eq_true_iff))) ?_;grind
      · simp only[k1,k2,k3,if_false]
        refine Zl2 ?_;grind
    · unfold Ztf
      constructor
      · intro x;exact .inr ⟨hk,x⟩
      · rintro (⟨x,_⟩ | ⟨_,x⟩)
        · exact absurd x hk
        · exact x
def Zep (o a:ZB):Prop:=ZB.Kind o=ZB.Kind a/\ZB.From o=ZB.From a/\ZB.To o=ZB.To a
def Apart (l:List ZB) (k:Nat) (a:ZB):Prop:=∀ (j:Nat) (o:ZB),j<k->l[j]?=some o->¬Zep o a
structure ZlE (c:Zl):Prop where
  name:(Zl.Name c).length<=4611686018427387904
  pins:sm (.sl Zm4) (Zl.YD c)
  arcs:sm (.sl Zk3) (Zl.Jr c)
  truth:sm (.sl (.int .i64)) (Zl.Truth c)
theorem Zu3 {c:Zl} (h:sm Zeu c):ZlE c:=⟨Zfh h.1,h.2.2.1,h.2.2.2.1,h.2.2.2.2.1⟩
theorem Zxb {a:ZB} (h:sm Zk3 a):sm (.sl JX) (ZB.Delay a)/\sm (.sl JX) (ZB.Xx a):=⟨h.2.2.2.2.1,h.2.2.2.2.2.1⟩
theorem ZhS (o a:ZB):Qa o a=some (tr (Zep o a)):=by
  unfold Qa Zep;exact YS (λ_=>YS (λ_=>ZcY decide_eq_true_iff))
theorem Zks (c:Zl) (h:ZlE c):ZaQ c=some (tr ((Zl.Jr c).length<=8/\ZdQ (Zl.Jr c) (λk a=>Ztf c a/\Apart (Zl.Jr c) k a))):=by
  unfold ZaQ;have hs:=ZF h.arcs;rw[QC (XO h.arcs) (λk a=>Ztf c a/\Apart (Zl.Jr c) k a) (bad:=false) (good:=decide ((Zl.Jr c).length<=8))
    (λk a hx hk _=>by
      obtain ⟨h1,h2⟩:=Zxb (Zf4 h.arcs hx);simp only[Jy,show (k:Int)<((Zl.Jr c).length:Int) from by omega,if_true,Zo,hx,Bq,Zmw c a h.pins h1 h2];by_cases hA:Ztf c a
      · rw[if_pos (ZU hA),Zn (by omega),Zn (by omega)]
        simp only[Int.toNat_natCast,Int.toNat_zero,List.drop_zero,Nat.sub_zero];rw[XW (by show ((Zl.Jr c).take k).length<=4611686018427387904;rw[List.length_take];omega) (λo=>tr (Zep o a)) (λo _=>ZhS o a),Bq];have e:((Zl.Jr c).take k).any (λo=>tr (Zep o a))=true<->¬Apart (Zl.Jr c) k a:=by
          rw[List.any_eq_true];constructor
          · rintro ⟨o,ho,hs⟩ hap
            obtain ⟨j,hj⟩:=List.mem_iff_getElem?.1 ho;rw[List.getElem?_take] at hj;split at hj
            · rename_i hjk;exact hap j o hjk hj ((YH _).1 hs)
            · cases hj
          · intro hn
            apply Classical.byContradiction;intro hno;refine hn (λj o hj ho hs=>hno ⟨o,?_,ZU hs⟩);exact List.mem_iff_getElem?.2 ⟨j,by rw[List.getElem?_take,if_pos hj];exact ho⟩
        constructor
        · rintro ⟨_,hap⟩;rw[if_neg (λhh=>e.1 hh hap)]
        · intro hn;rw[if_pos (e.2 (λhap=>hn ⟨hA,hap⟩))]
      · rw[if_neg (by rw[Z4 hA];simp)]
        exact ⟨λhh=>absurd hh.1 hA,λ_=>rfl⟩)
    (λ_=>by
      simp only[Jy,Int.lt_irrefl,if_false];congr 2;rw[decide_eq_decide];omega)]
  congr 1;refine Zc1 ?_;rw[YH];by_cases hA:ZdQ (Zl.Jr c) (λk a=>Ztf c a/\Apart (Zl.Jr c) k a)
  · rw[XV hA,decide_eq_true_eq];exact ⟨λh=>⟨h,hA⟩,λh=>h.1⟩
  · rw[Xp hA];exact ⟨λh=>(by cases h),λh=>absurd h.2 hA⟩
def Zna (c:Zl) (k:Int):Prop:=∃ a∈Zl.Jr c,ZB.Kind a=k
theorem Zc4 (c:Zl) (k:Int) (h:ZlE c):QL c k=some (tr (Zna c k)):=by
  unfold QL;rw[Qd (XO h.arcs) (λa=>decide (ZB.Kind a=k)) (λa _=>rfl),Bq];refine ZcY ?_;rw[List.any_eq_true];simp only[decide_eq_true_eq,Zna]
def Zey (c:Zl):Prop :=
  (Zl.Kind c=1/\ZjF (Zl.YD c)=0/\(Zl.Truth c).length=2 ^ ((Zl.YD c).length-1)/\Ze6 (Zl.Truth c) 0 1)\/
  (Zl.Kind c=2/\ZjF (Zl.YD c)=1/\(Zl.Truth c).length=0/\¬Zna c 1/\(Zna c 2<->¬Zna c 3))\/
  (Zl.Kind c=3/\ZjF (Zl.YD c)=1/\(Zl.Truth c).length=0/\Zna c 1/\Zna c 2/\¬Zna c 3)
theorem Zsu {n:Nat} (h:n<=4):(2:Nat) ^ n<=16:=by
  calc (2:Nat) ^ n<=2 ^ 4:=Nat.pow_le_pow_right (by omega) h
    _=16:=rfl
theorem ZwB {m:Nat} (h:m<=4):Wq ((1:Int)*(2:Int) ^ min m (IntKind.bits IntKind.i64))=((2 ^ m:Nat):Int):=by
  have hb:min m (IntKind.bits IntKind.i64)=m:=Nat.min_eq_left (by show m<=64;omega);have e:(1:Int)*(2:Int) ^ m=((2 ^ m:Nat):Int):=by simp
  rw[hb,e];have h16:=Zsu h;clear hb e;generalize 2 ^ m=g at h16 ⊢;rw[YI (by omega) (by omega)]
theorem ZjC (c:Zl) (h:ZlE c) (hp:ZgT (Zl.YD c)):Zad c=some (tr (Zey c)):=by
  unfold Zad;have h2:=hp.1;have h5:=hp.2.1;refine (show Zp (λv=>XK c v.1 v.2.1) ((0:Int),(0:Int),())=_ from JF (l:=Zl.YD c) (ρ:=Bool) (λk=>((((Zl.YD c).take k).countP (λp=>Y7.Clock p):Int),(k:Int),())) (step:=λv=>XK c v.1 v.2.1)
    (λk p hx hk=>by
      have hcnt:((Zl.YD c).take k).countP (λp=>Y7.Clock p)<=5:=by
        have h1:=List.countP_le_length (p:=λp=>Y7.Clock p) (l:=(Zl.YD c).take k);rw[List.length_take] at h1;omega
      have hnext:((Zl.YD c).take (k+1)).countP (λp=>Y7.Clock p)=((Zl.YD c).take k).countP (λp=>Y7.Clock p)+if Y7.Clock p=true then 1 else 0:=by
        rw[XR hx,List.countP_append];simp[List.countP_cons]
      simp only[XK,show (k:Int)<((Zl.YD c).length:Int) from by omega,if_true,Zo,hx,Bq,hnext];by_cases hc:Y7.Clock p=true
      · rw[if_pos hc,if_pos hc,Y8 (by omega),Y8 (by omega)]
      · rw[if_neg hc,if_neg hc,Y8 (by omega)];rfl)
    ?_)
  have hout:=ZbC c h.pins;simp only[XK,Int.lt_irrefl,if_false,List.take_length,hout,Bq,show (((Zl.YD c).length:Int)-1).toNat=(Zl.YD c).length-1 from by omega,ZwB (show (Zl.YD c).length-1<=4 by omega)];have e00:((Zl.YD c).countP (λp=>Y7.Clock p):Int)=0<->ZjF (Zl.YD c)=0:=by unfold ZjF;omega
  have e01:((Zl.YD c).countP (λp=>Y7.Clock p):Int)=1<->ZjF (Zl.YD c)=1:=by unfold ZjF;omega
  unfold Zey;by_cases k1:Zl.Kind c=1
  · simp only[k1,if_true]
    by_cases hc:ZjF (Zl.YD c)=0
    · rw[if_pos (e00.2 hc),Zn (by omega)]
      by_cases ht:(Zl.Truth c).length=2 ^ ((Zl.YD c).length-1)
      · rw[if_pos (by rw[ht]),ZaS _ _ _ (XO h.truth),Bq]
        congr 2;refine (ZlA ?_).symm;rw[Zhy];exact ⟨λhh=>.inl ⟨trivial,hc,ht,hh⟩,λhh=>by grind⟩
      · rw[if_neg (by omega),Z4 (by grind)]
    · rw[if_neg (λhh=>hc (e00.1 hh)),Z4 (by grind)]
  by_cases k2:Zl.Kind c=2
  · simp only[k2,if_true,Int.reduceEq,if_false]
    by_cases hc:ZjF (Zl.YD c)=1
    · rw[if_pos (e01.2 hc)]
      by_cases ht:(Zl.Truth c).length=0
      · rw[if_pos (by omega),Zc4 c 1 h,Bq]
        by_cases h1:Zna c 1
        · rw[if_pos (ZU h1),Z4 (by grind)]
        · rw[if_neg (by rw[Z4 h1];simp),Zc4 c 2 h,Zc4 c 3 h]
          simp only[Bq];congr 2;refine (ZlA ?_).symm;by_cases a:Zna c 2<;>by_cases b:Zna c 3<;>simp only[ZU,Z4,a,b,not_false_eq_true]<;>grind
      · rw[if_neg (by omega),Z4 (by grind)]
    · rw[if_neg (λhh=>hc (e01.1 hh)),Z4 (by grind)]
  by_cases k3:Zl.Kind c=3
  · simp only[k3,if_true,Int.reduceEq,if_false]
    by_cases hc:ZjF (Zl.YD c)=1
    · rw[if_pos (e01.2 hc)]
      by_cases ht:(Zl.Truth c).length=0
      · rw[if_pos (by omega),Zc4 c 1 h,Bq]
        by_cases h1:Zna c 1
        · rw[if_pos (ZU h1),Zc4 c 2 h,Bq]
          by_cases h2:Zna c 2
          · rw[if_pos (ZU h2),Zc4 c 3 h,Bq]
            congr 2;refine (ZlA ?_).symm;rw[Bool.not_eq_true',<-Bool.not_eq_true,YH];grind
          · rw[if_neg (by rw[Z4 h2];simp),Z4 (by grind)]
        · rw[if_neg (by rw[Z4 h1];simp),Z4 (by grind)]
      · rw[if_neg (by omega),Z4 (by grind)]
    · rw[if_neg (λhh=>hc (e01.1 hh)),Z4 (by grind)]
  · simp only[k1,k2,k3,if_false]
    rw[Z4 (by grind)]
def Zww (c:Zl):Prop:=JU (Zl.Name c)=true/\ZgT (Zl.YD c)/\((Zl.Jr c).length<=8/\ZdQ (Zl.Jr c) (λk a=>Ztf c a/\Apart (Zl.Jr c) k a))/\(0<=Zl.ZuM c/\Zl.ZuM c<=100000)/\(0<=Zl.ZiU c/\Zl.ZiU c<=100000)/\Zey c
def ZgS (c:Zl):Prop:=JU (Zl.Name c)=true/\ZgT (Zl.YD c)/\((Zl.Jr c).length<=8/\ZdQ (Zl.Jr c) (λk a=>Zid c a/\Apart (Zl.Jr c) k a))/\(0<=Zl.ZuM c/\Zl.ZuM c<=100000)/\(0<=Zl.ZiU c/\Zl.ZiU c<=100000)/\Zey c
theorem ZpW {l:List Y7} {i j:Nat} {p q:Y7} (hij:i<j) (hp:l[i]?=some p) (hq:l[j]?=some q) (cp:Y7.Clock p=true) (cq:Y7.Clock q=true):2<=ZjF l:=by
  unfold ZjF;have e:l.countP (λp=>Y7.Clock p)=(l.take j).countP (λp=>Y7.Clock p)+(l.drop j).countP (λp=>Y7.Clock p):=by rw[<-List.countP_append,List.take_append_drop]
  have h1:0<(l.take j).countP (λp=>Y7.Clock p):=List.countP_pos_iff.2 ⟨p,List.mem_iff_getElem?.2 ⟨i,by rw[List.getElem?_take,if_pos hij];exact hp⟩,cp⟩;have h2:0<(l.drop j).countP (λp=>Y7.Clock p):=List.countP_pos_iff.2 ⟨q,List.mem_iff_getElem?.2 ⟨0,by rw[List.getElem?_drop];exact hq⟩,cq⟩;omega
theorem ZlJ {l:List Y7} (h:ZjF l<=1) {i:Int} (h0:0<=i):Zml l i=true<->i=Zgg l:=by
  unfold Zgg Zb3 Zml;constructor
  · intro hc
    split at hc
    · rename_i p hp
      split
      · rename_i j hj
        obtain ⟨hj1,hj2,hj3⟩:=List.findIdx?_eq_some_iff_getElem.1 hj;have hjg:l[j]?=some l[j]:=List.getElem?_eq_getElem hj1;rcases Nat.lt_trichotomy i.toNat j with hlt | heq | hlt
        · have:=ZpW hlt hp hjg hc hj2;omega
        · omega
        · have:=ZpW hlt hjg hp hj2 hc;omega
      · rename_i hn
        rw[List.findIdx?_eq_none_iff] at hn;have:=hn p (List.mem_of_getElem? hp);rw[hc] at this;cases this
    · cases hc
  · intro hi
    split at hi
    · rename_i j hj
      obtain ⟨hj1,hj2,hj3⟩:=List.findIdx?_eq_some_iff_getElem.1 hj;subst hi;rw[Int.toNat_natCast,List.getElem?_eq_getElem hj1];exact hj2
    · omega
theorem Zqr {l:List Y7} (h:ZgT l):Zml l ((l.length:Int)-1)=false:=by
  have h2:=h.1;have hp:l[l.length-1]?=some l[l.length-1]:=List.getElem?_eq_getElem (by omega);have:=((h.2.2.2 _ _ hp).2.1 (by omega)).2.2;unfold Zml;rw[show ((l.length:Int)-1).toNat=l.length-1 by omega,hp];exact this
theorem Zrn {c:Zl} (hp:ZgT (Zl.YD c)) (hk:ZjF (Zl.YD c)<=1) (a:ZB):Ztf c a<->Zid c a:=by
  have h2:=hp.1;have hF:0<=ZB.From a->(Zml (Zl.YD c) (ZB.From a)=true<->ZB.From a=Zgg (Zl.YD c)):=λh=>ZlJ hk h;have hT:0<=ZB.To a->(Zml (Zl.YD c) (ZB.To a)=true<->ZB.To a=Zgg (Zl.YD c)):=λh=>ZlJ hk h;have hlast:=Zqr hp;have hfr:∀ i,Zml (Zl.YD c) i=true->i<((Zl.YD c).length:Int):=by
    intro i hi;unfold Zml at hi;split at hi
    · rename_i p hp'
      have:=(List.getElem?_eq_some_iff.1 hp').1;omega
    · cases hi
  unfold Ztf Zid;generalize Zgg (Zl.YD c)=ck at *;constructor
  · rintro (⟨k,s,sl,td,fc,f0,⟨t0,t1⟩,ne⟩ | ⟨k,td,ts,te,⟨f0,f1⟩,hh⟩)
    · have hclk:=(hF f0).2 fc
      have hnl:ZB.From a≠((Zl.YD c).length:Int)-1:=λe=>by rw[e,hlast] at hclk;cases hclk
      have:=hfr _ hclk;refine ⟨⟨f0,by omega⟩,⟨t0,by omega⟩,.inr (.inr ⟨k,hclk,by omega,?_,s,td,sl⟩)⟩;rw[<-Bool.not_eq_true];intro hc;exact ne (((hT t0).1 hc).trans fc.symm)
    · refine ⟨⟨f0,f1⟩,⟨by omega,by omega⟩,?_⟩
      rcases hh with ⟨k1,c1,s1⟩ | ⟨k1,c1,s1⟩
      · exact .inl ⟨k1,c1,te,s1,td,ts⟩
      · exact .inr (.inl ⟨k1,c1,te,s1,td,ts⟩)
  · rintro ⟨⟨f0,f1⟩,⟨t0,t1⟩,(⟨k,c1,te,s,td,ts⟩ | ⟨k,c1,te,s,td,ts⟩ | ⟨k,c1,tl,c2,s,td,sl⟩)⟩
    · exact .inr ⟨by omega,td,ts,te,⟨f0,f1⟩,.inl ⟨k,c1,s⟩⟩
    · exact .inr ⟨by omega,td,ts,te,⟨f0,f1⟩,.inr ⟨k,c1,s⟩⟩
    · refine .inl ⟨k,s,sl,td,(hF f0).1 c1,f0,⟨t0,by omega⟩,λe=>?_⟩
      rw[e,c1] at c2;cases c2
theorem Zey.ZjF {c:Zl} (h:Zey c):ZjF (Zl.YD c)<=1:=by
  rcases h with h | h | h
  · have:=h.2.1;omega
  · have:=h.2.1;omega
  · have:=h.2.1;omega
theorem Ztr (c:Zl):Zww c<->ZgS c:=by
  unfold Zww ZgS;constructor
  · rintro ⟨a,b,⟨c1,d⟩,e,f,g⟩
    exact ⟨a,b,⟨c1,λk x hx=>⟨(Zrn b g.ZjF x).1 (d k x hx).1,(d k x hx).2⟩⟩,e,f,g⟩
  · rintro ⟨a,b,⟨c1,d⟩,e,f,g⟩
    exact ⟨a,b,⟨c1,λk x hx=>⟨(Zrn b g.ZjF x).2 (d k x hx).1,(d k x hx).2⟩⟩,e,f,g⟩
theorem Zlj (c:Zl) (h:sm Zeu c):Zfu c=some (tr (ZgS c)):=by
  have hc:=Zu3 h;unfold Zfu;refine ZdY (YT (by rw[Ze3];exact ZcY Iff.rfl) (λ_=>YT (Zkt _ hc.pins) (λhp=>YT (Zks c hc) (λ_=>YT (Jm _ _ _) (λ_=>YT (Jm _ _ _) (λ_=>Zb9 (ZjC c hc hp))))))) ?_;exact (Ztr c)
def ZdL (l:List ZB):List Int:=(List.range 6).map (λ(j:Nat)=>((l.countP (λa=>decide (ZB.Kind a=(j:Int))):Nat):Int))
theorem ZbG (l:List ZB) {j:Nat} (h:j<6):(ZdL l)[j]?=some ((l.countP (λa=>decide (ZB.Kind a=(j:Int))):Nat):Int):=by
  simp[ZdL,List.getElem?_range h]
theorem ZjK (c:Zl) (h:ZlE c) (hk:∀ a∈Zl.Jr c,1<=ZB.Kind a/\ZB.Kind a<=5):Zd4 c=some (ZdL (Zl.Jr c)):=by
  unfold Zd4;have hs:=ZF h.arcs;have h0:List.replicate (Int.toNat (6:Int)) (0:Int)=ZdL ((Zl.Jr c).take 0):=by simp[ZdL];decide
  rw[h0];refine JF (l:=Zl.Jr c) (ρ:=List Int) (λk=>((k:Int),ZdL ((Zl.Jr c).take k),())) (step:=λv=>JI c v.1 v.2.1)
    (λk a hx hlt=>?_) (by simp only[JI,Int.lt_irrefl,if_false,List.take_length])
  obtain ⟨k1,k5⟩:=hk a (List.mem_of_getElem? hx);have hkn:ZB.Kind a=(((ZB.Kind a).toNat:Nat):Int):=by omega
  have hcnt:∀ j:Nat,((Zl.Jr c).take k).countP (λa=>decide (ZB.Kind a=(j:Int)))<=1048576:=by
    intro j;have h1:=List.countP_le_length (p:=λa=>decide (ZB.Kind a=(j:Int))) (l:=(Zl.Jr c).take k);rw[List.length_take] at h1;omega
  simp only[JI,show (k:Int)<((Zl.Jr c).length:Int) from by omega,if_true,Zo,hx,Bq];rw[Qn (by omega) (ZbG _ (show (ZB.Kind a).toNat<6 by omega)),Bq,Y8 (hcnt _),Y8 (by omega)];congr 3;rw[Prod.mk.injEq];refine ⟨?_,rfl⟩;apply List.ext_getElem?;intro j;by_cases hj:(ZB.Kind a).toNat=j
  · subst hj
    rw[List.getElem?_set_self (by simp[ZdL];omega),ZbG _ (by omega),XR hx,List.countP_append];congr 2;rw[List.countP_cons,List.countP_nil];simp[<-hkn]
  · rw[List.getElem?_set_ne hj]
    by_cases h6:j<6
    · rw[ZbG _ h6,ZbG _ h6,XR hx,List.countP_append]
      congr 2;rw[List.countP_cons,List.countP_nil];have:¬ZB.Kind a=(j:Int):=by omega
      simp[this]
    · rw[List.getElem?_eq_none (by simp[ZdL];omega),List.getElem?_eq_none (by simp[ZdL];omega)]
theorem Zj4 (c:Zl) (j:Nat):0<(Zl.Jr c).countP (λa=>decide (ZB.Kind a=(j:Int)))<->Zna c j:=by
  rw[List.countP_pos_iff];simp only[decide_eq_true_eq,Zna]
theorem ZiN (c:Zl) (h:ZlE c) (hp:ZgT (Zl.YD c)) (hk1:Zl.Kind c=1) :
    Zp (λv=>ZaV c ((ZjF (Zl.YD c):Int),true) v.1) ((0:Int),())=some (.inr (tr (Zey c))):=by
  have h2:=hp.1;have h5:=hp.2.1;have hs:=ZF h.truth;have e1:Wq (((Zl.YD c).length:Int)-1)=((Zl.YD c).length:Int)-1:=YI (by omega) (by omega);have e2:IntKind.u64.wrap (((Zl.YD c).length:Int)-1)=((Zl.YD c).length:Int)-1:=IntWalk.u64_in _ (by omega);rw[QC (XO h.truth) (λk x=>0<=x/\x<=1) (bad:=.inr false) (good:=.inr (tr (ZjF (Zl.YD c)=0/\(Zl.Truth c).length=2 ^ ((Zl.YD c).length-1))))
    (λk x hx hk _=>by
      simp only[ZaV,show (k:Int)<((Zl.Truth c).length:Int) from by omega,if_true,Zo,hx,Bq,ZcC,within_iff];exact ⟨λhh=>by rw[if_pos hh],λhh=>by rw[if_neg hh]⟩)
    (λ_=>by
      simp only[ZaV,Int.lt_irrefl,if_false,e1,e2];by_cases hc:ZjF (Zl.YD c)=0
      · rw[if_pos (by omega),Zn (by omega),show (((Zl.YD c).length:Int)-1).toNat=(Zl.YD c).length-1 by omega,ZwB (by omega)]
        congr 2;congr 1;refine (ZlA ?_).symm;rw[decide_eq_true_eq];constructor
        · intro hh;exact ⟨hc,by omega⟩
        · intro hh;rw[hh.2]
      · rw[if_neg (by omega),Z4 (λhh=>hc hh.1)])]
  congr 1;by_cases hA:ZdQ (Zl.Truth c) (λk x=>0<=x/\x<=1)
  · rw[XV hA]
    congr 1;refine QO ?_;have hAll:Ze6 (Zl.Truth c) 0 1:=λx hx=>by
      obtain ⟨k,hk⟩:=List.mem_iff_getElem?.1 hx;exact hA k x hk
    unfold Zey;grind
  · rw[Xp hA,Z4]
    intro hh;rcases hh with hh | hh | hh
    · exact hA (λk x hk=>hh.2.2.2 x (List.mem_of_getElem? hk))
    · have:=hh.1;omega
    · have:=hh.1;omega
theorem Zls (c:Zl) (hsm:sm Zeu c):ZfK c=some (tr (ZgS c)):=by
  have h:=Zu3 hsm;have hs:=ZF h.arcs;unfold ZfK;rw[ZkX c h.pins,Bq];by_cases hp':¬ZgT (Zl.YD c)
  · rw[Xp hp',Z4 (λhh=>hp' hh.2.1)];rfl
  have hp:=Classical.not_not.1 hp';rw[XV hp];simp only[if_true];refine ZdY (YT (P:=JU (Zl.Name c)=true) (by rw[ZcH _ h.name];exact ZcY Iff.rfl) (λhn=>Zfl (λh8=>YT (JD _ _ _) (λhl=>YT (JD _ _ _) (λhe=>?_))))) (P:=JU (Zl.Name c)=true/\¬((8:Int)<((Zl.Jr c).length:Int))/\(0<=Zl.ZuM c/\Zl.ZuM c<=100000)/\(0<=Zl.ZiU c/\Zl.ZiU c<=100000)/\(ZdQ (Zl.Jr c) (λk a=>Zid c a/\Apart (Zl.Jr c) k a)/\Zey c)) ?_
  · rw[QC (XO h.arcs) (λk a=>Zid c a/\Apart (Zl.Jr c) k a) (bad:=false) (good:=tr (Zey c))
      (λk a hx hk _=>by
        obtain ⟨h1,h2⟩:=Zxb (Zf4 h.arcs hx);simp only[Zda,show (k:Int)<((Zl.Jr c).length:Int) from by omega,if_true,Zo,hx,Bq,Zlu c a h.pins h1 h2 hp.1];have inner:Zp (λv=>ZaU c (k:Int) a v.1) ((0:Int),())=some (sel (∀ j,j<k->∀ o,(Zl.Jr c)[j]?=some o->¬Zep o a) (.inl (Wq ((k:Int)+1),())) (.inr false)):=by
          refine ZkE k (by omega) (λj=>∀ o,(Zl.Jr c)[j]?=some o->¬Zep o a) (λj hj=>?_) (λ_=>by simp only[ZaU,Int.lt_irrefl,if_false]);obtain ⟨o,ho⟩:∃ o,(Zl.Jr c)[j]?=some o:=⟨_,List.getElem?_eq_getElem (by omega)⟩;simp only[ZaU,show (j:Int)<(k:Int) from by omega,if_true,Zo,ho,Bq];have e:(∀ o',some o=some o'->¬Zep o' a)<->¬Zep o a:=⟨λhh=>hh o rfl,λhh o' ho'=>by injection ho' with ho';subst ho';exact hh⟩
          rw[e];unfold Zep;constructor
          · intro hh
            split
            · split
              · split
                · exact absurd ⟨‹_›,‹_›,‹_›⟩ hh
                · rfl
              · rfl
            · rfl
          · intro hh
            have hh:=Classical.not_not.1 hh;rw[if_pos hh.1,if_pos hh.2.1,if_pos hh.2.2]
        have eap:Apart (Zl.Jr c) k a<->(∀ j,j<k->∀ o,(Zl.Jr c)[j]?=some o->¬Zep o a):=⟨λhh j hj o ho=>hh j o hj ho,λhh j o hj ho=>hh j hj o ho⟩;by_cases hA:Zid c a
        · rw[if_pos (ZU hA),inner]
          constructor
          · intro hh;rw[XV (eap.1 hh.2)]
          · intro hh;rw[Xp (λh'=>hh ⟨hA,eap.2 h'⟩)]
        · rw[if_neg (by rw[Z4 hA];simp)]
          exact ⟨λhh=>absurd hh.1 hA,λ_=>rfl⟩)
      (λhA=>by
        have hkinds:=ZjK c h (λa ha=>by
          obtain ⟨k,hk⟩:=List.mem_iff_getElem?.1 ha;exact (hA k a hk).1.kind)
        have g1:atI (ZdL (Zl.Jr c)) (1:Int)=some (((Zl.Jr c).countP (λa=>decide (ZB.Kind a=((1:Nat):Int))):Nat):Int):=Qn (by omega) (ZbG _ (by omega));have g2:atI (ZdL (Zl.Jr c)) (2:Int)=some (((Zl.Jr c).countP (λa=>decide (ZB.Kind a=((2:Nat):Int))):Nat):Int):=Qn (by omega) (ZbG _ (by omega));have g3:atI (ZdL (Zl.Jr c)) (3:Int)=some (((Zl.Jr c).countP (λa=>decide (ZB.Kind a=((3:Nat):Int))):Nat):Int):=Qn (by omega) (ZbG _ (by omega));have c1:=Zj4 c 1;have c2:=Zj4 c 2;have c3:=Zj4 c 3;simp only[Zda,Int.lt_irrefl,if_false,hkinds,Bq,g1,g2,g3];generalize (Zl.Jr c).countP (λa=>decide (ZB.Kind a=((1:Nat):Int)))=n1 at c1 ⊢;generalize (Zl.Jr c).countP (λa=>decide (ZB.Kind a=((2:Nat):Int)))=n2 at c2 ⊢;generalize (Zl.Jr c).countP (λa=>decide (ZB.Kind a=((3:Nat):Int)))=n3 at c3 ⊢;by_cases k1:Zl.Kind c=1
        · rw[if_pos k1]
          exact ZiN c h hp k1
        rw[if_neg k1];have hgoal:∀ (b:Bool),(b=true<->Zey c)->(some (.inr b):Option ((Int×Unit) ⊕ Bool))=some (.inr (tr (Zey c))):=λb hb=>by rw[ZlA hb]
        have c1':Zna c 1<->0<n1:=c1.symm;have c2':Zna c 2<->0<n2:=c2.symm;have c3':Zna c 3<->0<n3:=c3.symm;have hKO:Zey c<->(Zl.Kind c=2/\ZjF (Zl.YD c)=1/\(Zl.Truth c).length=0/\¬0<n1/\(0<n2<->¬0<n3))\/(Zl.Kind c=3/\ZjF (Zl.YD c)=1/\(Zl.Truth c).length=0/\0<n1/\0<n2/\¬0<n3):=by
          unfold Zey;rw[c1',c2',c3'];constructor
          · rintro (hh | hh | hh)
            · exact absurd hh.1 k1
            · exact .inl hh
            · exact .inr hh
          · rintro (hh | hh)
            · exact .inr (.inl hh)
            · exact .inr (.inr hh)
        by_cases k2:Zl.Kind c=2
        · rw[if_pos k2]
          split
          · split
            · split
              · rename_i a b d
                refine hgoal _ ?_;rw[hKO];simp only[beq_iff_eq,decide_eq_decide] at d;constructor
                · intro hh;cases hh
                · intro hh;omega
              · rename_i a b d
                refine hgoal _ ?_;rw[hKO,decide_eq_true_eq];simp only[beq_iff_eq,decide_eq_decide] at d;omega
            · refine hgoal _ ?_
              rw[hKO];constructor
              · intro hh;cases hh
              · intro hh;omega
          · refine hgoal _ ?_
            rw[hKO];constructor
            · intro hh;cases hh
            · intro hh;omega
        rw[if_neg k2];repeat' split
        all_goals
          refine hgoal _ ?_;rw[hKO];first
            | (rw[decide_eq_true_eq];omega)
            | (constructor
               · intro hh;cases hh
               · intro hh;omega))]
    congr 1;by_cases hA:ZdQ (Zl.Jr c) (λk a=>Zid c a/\Apart (Zl.Jr c) k a)
    · rw[XV hA];exact QO ⟨λx=>⟨hA,x⟩,λx=>x.2⟩
    · rw[Xp hA,Z4 (λx=>hA x.1)]
  · unfold ZgS
    constructor
    · rintro ⟨a,b,c1,d,e,f⟩
      exact ⟨a,hp,⟨by omega,e⟩,c1,d,f⟩
    · rintro ⟨a,b,⟨c1,d⟩,e,f,g⟩
      exact ⟨a,by omega,e,f,d,g⟩
theorem ZpT {α:Type} {l:List α} {k:Nat} {s:α}:s ∉ l.take k<->∀ (j:Nat) (q:α),j<k->l[j]?=some q->q≠s:=by
  constructor
  · intro h j q hj hq e
    refine h (List.mem_iff_getElem?.2 ⟨j,?_⟩);rw[List.getElem?_take,if_pos hj,hq,e]
  · intro h hm
    obtain ⟨j,hj⟩:=List.mem_iff_getElem?.1 hm;rw[List.getElem?_take] at hj;split at hj
    · rename_i hjk;exact h j s hjk hj rfl
    · cases hj
theorem ZnE {α:Type} (f:α->List UInt8) (l:List α):Vi (l.map f) l.length<->ZdQ l (λk x=>JU (f x)=true/\∀ (j:Nat) (q:α),j<k->l[j]?=some q->f q≠f x):=by
  constructor
  · intro h k x hx
    have hk:=(List.getElem?_eq_some_iff.1 hx).1;obtain ⟨h1,h2⟩:=h k (f x) hk (by simp[hx]);refine ⟨h1,λj q hj hq=>ZpT.1 h2 j (f q) hj (by simp[hq])⟩
  · intro h j s hj hs
    simp only[List.getElem?_map,Option.map_eq_some_iff] at hs;obtain ⟨x,hx,rfl⟩:=hs;obtain ⟨h1,h2⟩:=h j x hx;refine ⟨h1,ZpT.2 (λi q hi hq=>?_)⟩;simp only[List.getElem?_map,Option.map_eq_some_iff] at hq;obtain ⟨y,hy,rfl⟩:=hq;exact h2 i y hi hy
def Zfb (l:List Zl):List (List UInt8):=l.map Zl.Name
def Znd (a:Zy):Prop:=(Zy.Cells a).length<=8/\(∀ c∈Zy.Cells a,ZgS c)/\Vi (Zfb (Zy.Cells a)) (Zy.Cells a).length
theorem Zuh {a:Zy} (h:sm Qp a):sm (.sl Zeu) (Zy.Cells a):=h.1
theorem Zbr {α:Type} {l:List α} {P:α->Prop}:ZdQ l (λ_ x=>P x)<->∀ x∈l,P x:=by
  constructor
  · intro h x hx
    obtain ⟨k,hk⟩:=List.mem_iff_getElem?.1 hx;exact h k x hk
  · intro h k x hk
    exact h x (List.mem_of_getElem? hk)
theorem ZgL {P Q:Prop}:sel P (tr Q) false=tr (P/\Q):=by
  by_cases h:P
  · rw[XV h];exact QO ⟨λq=>⟨h,q⟩,λq=>q.2⟩
  · rw[Xp h,Z4 (λq=>h q.1)]
theorem Ziu (a:Zy) (h:sm Qp a):Zdl a=some (tr (Znd a)):=by
  have hc:=Zuh h;have hs:=ZF hc;unfold Zdl;have:=ZgH (l:=Zy.Cells a) (ρ:=Bool) (λk=>((Zfb (Zy.Cells a)).take k,(k:Int),())) (λ_ c=>ZgS c) (step:=λv=>QF a v.1 v.2.1) (bad:=false) (good:=tr ((Zy.Cells a).length<=8/\Vi (Zfb (Zy.Cells a)) (Zy.Cells a).length))
    (λk c hx hk _=>by
      have hn:(Zfb (Zy.Cells a))[k]?=some (Zl.Name c):=by simp[Zfb,hx]
      simp only[QF,show (k:Int)<((Zy.Cells a).length:Int) from by omega,if_true,Zo,hx,Bq,Zlj c (Zf4 hc hx)];rw[Zn (by simp only[List.length_take,List.length_singleton,Zfb,List.length_map];omega),XR hn,Y8 (by omega)];constructor
      · intro hh;rw[if_pos (ZU hh)]
      · intro hh;rw[if_neg (by rw[Z4 hh];simp)])
    (λhA=>by
      have e0:(Zfb (Zy.Cells a)).take (Zy.Cells a).length=Zfb (Zy.Cells a):=by rw[show (Zy.Cells a).length=(Zfb (Zy.Cells a)).length by simp[Zfb],List.take_length]
      have hlen:(Zfb (Zy.Cells a)).length=(Zy.Cells a).length:=by simp[Zfb]
      simp only[QF,Int.lt_irrefl,if_false,e0];by_cases h8:(Zy.Cells a).length<=8
      · rw[if_pos (by omega),JR _ (by rw[hlen];omega),Bq,hlen]
        congr 2;exact QO ⟨λq=>⟨h8,q⟩,λq=>q.2⟩
      · rw[if_neg (by omega),Z4 (λq=>h8 q.1)])
  refine (show Zp (λv=>QF a v.1 v.2.1) (([]:List (List UInt8)),(0:Int),())=_ from this).trans ?_;rw[ZgL];congr 1;refine QO ?_;rw[Zbr];exact ⟨λq=>⟨q.2.1,q.1,q.2.2⟩,λq=>⟨q.2.1,q.1,q.2.2⟩⟩
theorem Zkx {α ρ:Type} {f:α->List UInt8} {l:List α} {x:α} {k:Nat} (hk:k<=1048576) (hkl:k<=l.length) {step:Int×Unit->Option ((Int×Unit) ⊕ ρ)} {bad good:ρ}
    (hs:∀ (j:Nat) (y:α),j<k->l[j]?=some y->step ((j:Int),())=some (if f y=f x then .inr bad else .inl (Wq ((j:Int)+1),())))
    (hx:step ((k:Int),())=some (.inr good)):Zp step ((0:Int),())=some (sel (∀ (j:Nat) (q:α),j<k->l[j]?=some q->f q≠f x) good bad):=by
  rw[ZkE k (by omega) (λj=>∀ q,l[j]?=some q->f q≠f x) (bad:=bad) (good:=good) (λj hj=>by
    have hjl:l[j]?=some l[j]:=List.getElem?_eq_getElem (by omega);rw[hs j _ hj hjl];constructor
    · intro hh;rw[if_neg (hh _ hjl)]
    · intro hh
      rw[if_pos];apply Classical.byContradiction;intro hne;refine hh (λq hq=>?_);rw[hjl] at hq;injection hq with hq;subst hq;exact hne) (λ_=>hx)]
  congr 1;have e:(∀ j,j<k->∀ q,l[j]?=some q->f q≠f x)<->(∀ (j:Nat) (q:α),j<k->l[j]?=some q->f q≠f x):=⟨λh j q hj hq=>h j hj q hq,λh j hj q hq=>h j q hj hq⟩;rw[propext e]
theorem ZiO (a:Zy) (h:sm Qp a):Zdq a=some (tr (Znd a)):=by
  have hc:=Zuh h;have hs:=ZF hc;unfold Zdq;rw[QC (XO hc) (λk c=>ZgS c/\∀ (j:Nat) (q:Zl),j<k->(Zy.Cells a)[j]?=some q->Zl.Name q≠Zl.Name c) (bad:=false) (good:=tr ((Zy.Cells a).length<=8))
    (λk c hx hk _=>by
      simp only[Za8,show (k:Int)<((Zy.Cells a).length:Int) from by omega,if_true,Zo,hx,Bq,Zls c (Zf4 hc hx)];by_cases hC:ZgS c
      · rw[if_pos (ZU hC),Zkx (f:=Zl.Name) (l:=Zy.Cells a) (x:=c) (k:=k) (by omega) (by omega) (bad:=.inr false) (good:=.inl (Wq ((k:Int)+1),()))
          (λj y hj hy=>by
            simp only[Za7,show (j:Int)<(k:Int) from by omega,if_true,Zo,hy,Bq];split<;>rfl)
          (by simp only[Za7,Int.lt_irrefl,if_false])]
        constructor
        · intro hh;rw[XV hh.2]
        · intro hh;rw[Xp (λq=>hh ⟨hC,q⟩)]
      · rw[if_neg (by rw[Z4 hC];simp)]
        exact ⟨λhh=>absurd hh.1 hC,λ_=>rfl⟩)
    (λ_=>by
      simp only[Za8,Int.lt_irrefl,if_false];congr 2;exact (ZlA (by rw[decide_eq_true_eq];omega)).symm)]
  rw[ZgL];congr 1;refine QO ?_;unfold Znd;rw[Zfb,ZnE,<-Zbr];constructor
  · rintro ⟨q,q8⟩
    exact ⟨q8,λk x hx=>(q k x hx).1,λk x hx=>⟨(q k x hx).1.1,(q k x hx).2⟩⟩
  · rintro ⟨q8,q1,q2⟩
    exact ⟨λk x hx=>⟨q1 k x hx,(q2 k x hx).2⟩,q8⟩
theorem ZdO (l:List (List UInt8)) (hl:l.length<=1048576) (hsm:∀ s∈l,s.length<=4611686018427387904):ZaW l=some (tr (Vi l l.length)):=by
  unfold ZaW;rw[QC (show Len l by show l.length<=4611686018427387904;omega) (λk s=>JU s=true/\∀ (j:Nat) (q:List UInt8),j<k->l[j]?=some q->id q≠id s) (bad:=false) (good:=true)
    (λk s hx hk _=>by
      simp only[ZbO,show (k:Int)<(l.length:Int) from by omega,if_true,Zo,hx,Bq,ZcH s (hsm s (List.mem_of_getElem? hx))];by_cases hC:JU s=true
      · rw[if_pos hC,Zkx (f:=id) (l:=l) (x:=s) (k:=k) (by omega) (by omega) (bad:=.inr false) (good:=.inl (Wq ((k:Int)+1),()))
          (λj y hj hy=>by
            simp only[ZbN,show (j:Int)<(k:Int) from by omega,if_true,Zo,hy,Bq,id];split<;>rfl)
          (by simp only[ZbN,Int.lt_irrefl,if_false])]
        constructor
        · intro hh;rw[XV hh.2]
        · intro hh;rw[Xp (λq=>hh ⟨hC,q⟩)]
      · rw[if_neg hC]
        exact ⟨λhh=>absurd hh.1 hC,λ_=>rfl⟩)
    (λ_=>by simp only[ZbO,Int.lt_irrefl,if_false]),Zfe]
  congr 1;refine QO ?_;have:=ZnE id l;rw[List.map_id] at this;exact this.symm
def Za3 (d:Zd):List (List UInt8):=(Zd.Instances d).map Zi.Name
def Zct (d:Zd):List (List UInt8):=(Zd.YR d).map Yr.Name
def Zhw (d:Zd):Prop:=(Zd.Instances d).length<=14/\(Zd.YQ d).length<=30/\(Zd.YR d).length<=8/\Vi (Za3 d) (Za3 d).length/\Vi (Zd.YQ d) (Zd.YQ d).length/\Vi (Zct d) (Zct d).length
theorem gather {α ρ:Type} {l:List α} (hl:l.length<=1048576) (f:α->List UInt8) {step:List (List UInt8)×Int×Unit->Option ((List (List UInt8)×Int×Unit) ⊕ ρ)} {good:ρ}
    (hs:∀ (k:Nat) (x:α) (o:List (List UInt8)),l[k]?=some x->(k:Int)<(l.length:Int)->o.length=k->step (o,(k:Int),())=Zw ((o.length+[f x].length)*16<=140737488355328) (some (.inl (o++[f x],Wq ((k:Int)+1),()))))
    (hx:step (l.map f,(l.length:Int),())=some (.inr good)):Zp step (([]:List (List UInt8)),(0:Int),())=some good:=by
  refine (show Zp step (([]:List (List UInt8)),(0:Int),())=some good from JF (l:=l) (λk=>((l.map f).take k,(k:Int),())) (λk x hx hk=>?_) ?_)
  · have hn:(l.map f)[k]?=some (f x):=by simp[hx]
    have hlen:((l.map f).take k).length=k:=by rw[List.length_take,List.length_map];omega
    rw[hs k x _ hx (by omega) hlen,Zn (by rw[hlen];simp;omega),XR hn,Y8 (by omega)]
  · have e0:(l.map f).take l.length=l.map f:=by rw[show l.length=(l.map f).length by simp,List.take_length]
    simp only[e0];exact hx
theorem ZfJ {d:Zd} (h:sm Xq d):sm (.sl ZcV) (Zd.Instances d)/\sm (.sl Zo2) (Zd.YR d)/\sm (.sl .str) (Zd.YQ d):=by
  refine ⟨?_,?_,?_⟩
  · first | exact h.1 | exact h.2.1 | exact h.2.2.1 | exact h.2.2.2.1
  · first | exact h.1 | exact h.2.1 | exact h.2.2.1 | exact h.2.2.2.1
  · first | exact h.1 | exact h.2.1 | exact h.2.2.1 | exact h.2.2.2.1
theorem Zl0 {x:Zi} (h:sm ZcV x):sm .str (Zi.Name x)/\sm (.sl (.int .i64)) (Zi.YQ x):=by
  refine ⟨?_,?_⟩
  · first | exact h.1 | exact h.2.1 | exact h.2.2.1 | exact h.2.2.2.1
  · first | exact h.1 | exact h.2.1 | exact h.2.2.1 | exact h.2.2.2.1
theorem Zxc {x:Yr} (h:sm Zo2 x):sm .str (Yr.Name x):=by
  first | exact h.1 | exact h.2.1 | exact h.2.2.1 | exact h.2.2.2.1
theorem Zft (d:Zd) (h:sm Xq d):V4 d=some (tr (Zhw d)):=by
  obtain ⟨h1,h2,h3⟩:=ZfJ h;have s1:=ZF h1;have s2:=ZF h2;have s3:=ZF h3;unfold V4;refine gather (l:=Zd.Instances d) s1 Zi.Name (λk x o hx hk ho=>?_) ?_
  · simp only[Vm,hk,if_true,Zo,hx,Bq]
  simp only[Vm,Int.lt_irrefl,if_false];have hi:(Za3 d).length=(Zd.Instances d).length:=by simp[Za3]
  have hp:(Zct d).length=(Zd.YR d).length:=by simp[Zct]
  refine gather (l:=Zd.YR d) s2 Yr.Name (λk x o hx hk ho=>?_) ?_
  · simp only[Vl,hk,if_true,Zo,hx,Bq]
  simp only[Vl,Int.lt_irrefl,if_false];rw[show List.map Yr.Name (Zd.YR d)=Zct d from rfl,show List.map Zi.Name (Zd.Instances d)=Za3 d from rfl];simp only[hi,hp,JR _ (show (Za3 d).length<=4611686018427387904 by omega),JR _ (show (Zct d).length<=4611686018427387904 by omega),JR _ (show (Zd.YQ d).length<=4611686018427387904 by omega),Bq];unfold Zhw;rw[hi,hp];by_cases a:(Zd.Instances d).length<=14
  · rw[if_pos (by omega)]
    by_cases b:(Zd.YQ d).length<=30
    · rw[if_pos (by omega)]
      by_cases c:(Zd.YR d).length<=8
      · rw[if_pos (by omega)]
        by_cases e:Vi (Za3 d) (Zd.Instances d).length
        · rw[if_pos (ZU e)]
          by_cases f:Vi (Zd.YQ d) (Zd.YQ d).length
          · rw[if_pos (ZU f)]
            congr 3;exact QO ⟨λq=>⟨a,b,c,e,f,q⟩,λq=>q.2.2.2.2.2⟩
          · rw[if_neg (by rw[Z4 f];simp),Z4 (λq=>f q.2.2.2.2.1)]
        · rw[if_neg (by rw[Z4 e];simp),Z4 (λq=>e q.2.2.2.1)]
      · rw[if_neg (by omega),Z4 (λq=>c q.2.2.1)]
    · rw[if_neg (by omega),Z4 (λq=>b q.2.1)]
  · rw[if_neg (by omega),Z4 (λq=>a q.1)]
def Zjb (n:Nat) (s:List Int):List Int:=(List.range n).map (λ(j:Nat)=>((s.countP (λx=>decide (x=(j:Int))):Nat):Int))
theorem ZgE (n:Nat) (s:List Int):(Zjb n s).length=n:=by simp[Zjb]
theorem Zmm (n:Nat):Zjb n []=List.replicate n 0:=by
  apply List.ext_getElem?;intro i;simp only[Zjb,List.countP_nil,List.getElem?_map,List.getElem?_replicate,List.getElem?_range];by_cases h:i<n
  · simp[h]
  · simp[h]
theorem ZhE {n:Nat} {s:List Int} {j:Nat} (h:j<n):(Zjb n s)[j]?=some ((s.countP (λx=>decide (x=(j:Int))):Nat):Int):=by
  simp[Zjb,h]
theorem Zvw {n:Nat} {s:List Int} {x:Int} (h0:0<=x) (h1:x<(n:Int)):atI (Zjb n s) x=some ((s.countP (λy=>decide (y=x)):Nat):Int):=by
  refine Qn h0 ?_;rw[ZhE (by omega),show ((x.toNat:Nat):Int)=x by omega]
theorem Ztv {n:Nat} {s:List Int} {x:Int} (h0:0<=x) (h1:x<(n:Int)):List.set (Zjb n s) (Int.toNat x) (((s.countP (λy=>decide (y=x)):Nat):Int)+1)=Zjb n (s++[x]):=by
  apply List.ext_getElem?;intro i;rw[List.getElem?_set];by_cases hi:i<n
  · rw[ZhE hi,ZhE hi,List.countP_append,ZgE]
    by_cases e:x.toNat=i
    · subst e
      rw[if_pos rfl,if_pos (by omega),show ((x.toNat:Nat):Int)=x by omega];simp
    · rw[if_neg e]
      have:¬x=(i:Int):=by omega
      simp[List.countP_cons,this]
  · have h1:(Zjb n s)[i]?=none:=by rw[List.getElem?_eq_none];rw[ZgE];omega
    have h2:(Zjb n (s++[x]))[i]?=none:=by rw[List.getElem?_eq_none];rw[ZgE];omega
    rw[h1,h2];split
    · split
      · rename_i h3;rw[ZgE] at h3;omega
      · rfl
    · rfl
theorem Zgh {n:Nat} {s:List Int} {x:Int} (h0:0<=x) (h1:x<(n:Int)) (hs:s.length<=1048576000) {τ:Type} (F:List Int->Option τ) :
    ((atI (Zjb n s) x).bind λy=>F (List.set (Zjb n s) (Int.toNat x) (Wq (y+1))))=F (Zjb n (s++[x])):=by
  have h2:=List.countP_le_length (p:=λy=>decide (y=x)) (l:=s);rw[Zvw h0 h1,Bq,YI (by omega) (by omega),Ztv h0 h1]
def Zaw (x:Zi):Int:=(Zi.YQ x).getLastD 0
def Znc (d:Zd) (n:Int):Prop:=0<=n/\n<=((Zd.YQ d).length:Int)-1
def ZfW (a:Zy) (d:Zd) (x:Zi):Prop :=
  (0<=Zi.Cell x/\Zi.Cell x<=((Zy.Cells a).length:Int)-1)/\(∃ c,(Zy.Cells a)[(Zi.Cell x).toNat]?=some c/\(Zi.YQ x).length=(Zl.YD c).length)/\∀ n∈Zi.YQ x,Znc d n
def ZgU (d:Zd) (p:Yr):Prop:=(1<=Yr.Dir p/\Yr.Dir p<=2)/\Znc d (Yr.Net p)
def ZxE (d:Zd):List Int:=(Zd.Instances d).map Zaw++((Zd.YR d).filter (λp=>decide (Yr.Dir p=1))).map Yr.Net
def Zhx (d:Zd):Prop:=∀ x∈Zjb (Zd.YQ d).length (ZxE d),x=1
def Zac (a:Zy) (d:Zd):Prop:=Znd a/\Zhw d/\(∀ x∈Zd.Instances d,ZfW a d x)/\(∀ p∈Zd.YR d,ZgU d p)/\Zhx d
theorem ZfW.last {a:Zy} {d:Zd} {x:Zi} (h:ZfW a d x) (hl:Znd a) (hsm:(Zi.YQ x).length<=1048576):atI (Zi.YQ x) (Wq (((Zi.YQ x).length:Int)-1))=some (Zaw x)/\Znc d (Zaw x):=by
  obtain ⟨_,⟨c,hc,hn⟩,hall⟩:=h;have h2:2<=(Zl.YD c).length:=(hl.2.1 c (List.mem_of_getElem? hc)).2.1.1;unfold Zaw;cases hN:Zi.YQ x with
  | nil=>rw[hN] at hn;simp at hn;omega
  | cons y r =>
    rw[hN] at hsm;rw[ZgW hsm (by simp),Zo];have e:(y::r)[(y::r).length-1]?=some ((y::r).getLastD 0):=by
      rw[<-List.getLast?_eq_getElem?,List.getLastD_eq_getLast?,List.getLast?_cons];rfl
    exact ⟨e,hall _ (by rw[hN];exact List.mem_of_getElem? e)⟩
theorem ZdU (d:Zd) (n:Int) (h:sm Xq d):Qj d n=some (tr (Znc d n)):=by
  have s3:=ZF (ZfJ h).2.2;unfold Qj;rw[show Zcn (Zd.YQ d)=some ((Zd.YQ d).length:Int) from rfl,Bq,YI (by omega) (by omega)];exact Zb9 (Jm _ _ _)
theorem Ze0 (d:Zd) (a:Zy) (x:Zi) (hd:sm Xq d) (ha:sm Qp a) (hx:sm ZcV x):Vf d a x=some (tr (ZfW a d x)):=by
  have sa:=ZF (Zuh ha);unfold Vf;rw[show Zas (Zy.Cells a)=some ((Zy.Cells a).length:Int) from rfl,Bq,YI (by omega) (by omega)];refine ZdY (P:=(0<=Zi.Cell x/\Zi.Cell x<=((Zy.Cells a).length:Int)-1)/\ZfW a d x) (YT (Jm _ _ _) (λhw=>?_)) ⟨λq=>q.2,λq=>⟨q.1,q⟩⟩;obtain ⟨c,hc1,hc2⟩:=ZlH hw.1 (show Zi.Cell x<((Zy.Cells a).length:Int) by omega);rw[hc1,Bq];refine ZdY (P:=((Zi.YQ x).length:Int)=((Zl.YD c).length:Int)/\∀ n∈Zi.YQ x,Znc d n) (YS (λhe=>?_)) ?_
  · rw[X0 (XO (Zl0 hx).2) (λn=>!tr (Znc d n)) (λn _=>by
      unfold XB;show (Qj d n).bind _=_;rw[ZdU d n hd];rfl),Bq]
    refine ZcY ?_;rw[Bool.not_eq_true',List.any_eq_false];constructor
    · intro q n hn
      have:=q n hn;simp only[Bool.not_eq_true',Bool.not_eq_false] at this;exact (YH _).1 this
    · intro q n hn
      simp only[Bool.not_eq_true',Bool.not_eq_false];exact ZU (q n hn)
  · constructor
    · rintro ⟨q1,q2⟩;exact ⟨hw,⟨c,hc2,by omega⟩,q2⟩
    · rintro ⟨_,⟨c',q1,q2⟩,q3⟩
      rw[hc2] at q1;injection q1 with q1;subst q1
      exact ⟨by omega,q3⟩
theorem Zpq {d:Zd} {k:Nat} {p:Yr} (hx:(Zd.YR d)[k]?=some p) (s:List Int) :
    s++(((Zd.YR d).take (k+1)).filter (λp=>decide (Yr.Dir p=1))).map Yr.Net=(if Yr.Dir p=1 then (s++(((Zd.YR d).take k).filter (λp=>decide (Yr.Dir p=1))).map Yr.Net)++[Yr.Net p] else s++(((Zd.YR d).take k).filter (λp=>decide (Yr.Dir p=1))).map Yr.Net):=by
  rw[XR hx,List.filter_append,List.map_append];by_cases h:Yr.Dir p=1
  · rw[if_pos h];simp[h]
  · rw[if_neg h];simp[h]
theorem ZrP {d:Zd} (k m:Nat):(((Zd.Instances d).take m).map Zaw++(((Zd.YR d).take k).filter (λp=>decide (Yr.Dir p=1))).map Yr.Net).length<=(Zd.Instances d).length+(Zd.YR d).length:=by
  have h:=List.length_filter_le (λp=>decide (Yr.Dir p=1)) ((Zd.YR d).take k);simp only[List.length_append,List.length_map,List.length_take] at h ⊢;omega
theorem ZjB (a:Zy) (d:Zd) (ha:sm Qp a) (hd:sm Xq d):Zd0 a d=some (tr (Zac a d)):=by
  obtain ⟨h1,h2,h3⟩:=ZfJ hd;have s1:=ZF h1;have s2:=ZF h2;have s3:=ZF h3;unfold Zd0;refine ZdY (P:=Znd a/\Zhw d/\(ZdQ (Zd.Instances d) (λ_ x=>ZfW a d x)/\(ZdQ (Zd.YR d) (λ_ p=>ZgU d p)/\Zhx d))) (YT (Ziu a ha) (λhL=>YT (Zft d hd) (λhN=>?_))) (by rw[Zbr,Zbr];exact Iff.rfl);rw[Zn (by omega),Zn (by omega),Zn (by omega),Zn (by omega)];have:=ZgH (l:=Zd.Instances d) (ρ:=Bool) (λk=>((k:Int),Zjb (Zd.YQ d).length (((Zd.Instances d).take k).map Zaw),())) (λ_ x=>ZfW a d x) (step:=λv=>JA a d v.1 v.2.1) (bad:=false) (good:=tr (ZdQ (Zd.YR d) (λ_ p=>ZgU d p)/\Zhx d))
    (λk x hx hk _=>by
      have hsx:=Zf4 h1 hx;simp only[JA,show (k:Int)<((Zd.Instances d).length:Int) from by omega,if_true,Zo,hx,Bq,Ze0 d a x hd ha hsx];constructor
      · intro hh
        obtain ⟨e1,e2⟩:=hh.last hL (ZF (Zl0 hsx).2);rw[if_pos (ZU hh),e1,Bq,Zgh e2.1 (by have:=e2.2;omega) (by simp only[List.length_map,List.length_take];omega) (F:=λo=>some (Sum.inl (Wq ((k:Int)+1),o,()))),XR hx,List.map_append,Y8 (by omega)];rfl
      · intro hh;rw[if_neg (by rw[Z4 hh];simp)])
    (λhA=>by
      simp only[JA,Int.lt_irrefl,if_false,List.take_length];have:=ZgH (l:=Zd.YR d) (ρ:=Int×List Int×Unit ⊕ Bool) (λk=>((k:Int),Zjb (Zd.YQ d).length ((Zd.Instances d).map Zaw++(((Zd.YR d).take k).filter (λp=>decide (Yr.Dir p=1))).map Yr.Net),())) (λ_ p=>ZgU d p) (step:=λv=>Q5 d v.1 v.2.1) (bad:=.inr false) (good:=.inr (tr (Zhx d)))
        (λk p hx hk _=>by
          have hl:=ZrP (d:=d) k (Zd.Instances d).length;rw[List.take_length] at hl;simp only[Q5,show (k:Int)<((Zd.YR d).length:Int) from by omega,if_true,Zo,hx,Bq,ZdU d _ hd,Zpq hx];by_cases d1:Yr.Dir p=1
          · simp only[d1,if_true]
            constructor
            · intro hh
              rw[if_pos (ZU hh.2),Zgh hh.2.1 (by have:=hh.2.2;omega) (by omega) (F:=λo=>some (Sum.inl (Wq ((k:Int)+1),o,()))),Y8 (by omega)]
            · intro hh
              rw[if_neg (by rw[Z4 (λq=>hh ⟨by omega,q⟩)];simp)]
          · simp only[d1,if_false]
            by_cases d2:Yr.Dir p=2
            · simp only[d2,if_true]
              constructor
              · intro hh
                rw[if_pos (ZU hh.2),Y8 (by omega)]
              · intro hh
                rw[if_neg (by rw[Z4 (λq=>hh ⟨by omega,q⟩)];simp)]
            · simp only[d2,if_false]
              exact ⟨λhh=>by have:=hh.1;omega,λ_=>trivial⟩)
        (λ_=>by
          simp only[Q5,Int.lt_irrefl,if_false,List.take_length];rw[Q9 (show Len _ by show List.length _<=_;rw[ZgE];omega) (λn=>!decide (n=1)) (λn _=>rfl),Bq];congr 3;refine (ZlA ?_).symm;rw[Bool.not_eq_true',List.any_eq_false];simp only[Bool.not_eq_true',Bool.not_eq_false,decide_eq_true_eq,decide_eq_false_iff_not,Classical.not_not];exact Iff.rfl)
      refine (show Zp (λv=>Q5 d v.1 v.2.1) ((0:Int),Zjb (Zd.YQ d).length ((Zd.Instances d).map Zaw),())=_ from (by simpa using this)).trans ?_;by_cases hP:ZdQ (Zd.YR d) (λ_ p=>ZgU d p)
      · rw[XV hP];congr 2;exact QO ⟨λq=>⟨hP,q⟩,λq=>q.2⟩
      · rw[Xp hP,Z4 (λq=>hP q.1)])
  rw[ZgL] at this;refine Eq.trans ?_ this;rw[List.take_zero,List.map_nil,Zmm];rfl
theorem ZjL (a:Zy) (d:Zd) (ha:sm Qp a) (hd:sm Xq d):Zd5 a d=some (tr (ZdQ (Zd.Instances d) (λ_ x=>ZfW a d x)/\ZdQ (Zd.YR d) (λ_ p=>ZgU d p))):=by
  obtain ⟨h1,h2,h3⟩:=ZfJ hd;have s1:=ZF h1;have s2:=ZF h2;have s3:=ZF h3;have sa:=ZF (Zuh ha);have e1:Wq (((Zd.YQ d).length:Int)-1)=((Zd.YQ d).length:Int)-1:=YI (by omega) (by omega);have e2:Wq (((Zy.Cells a).length:Int)-1)=((Zy.Cells a).length:Int)-1:=YI (by omega) (by omega);unfold Zd5;rw[QC (XO h1) (λ_ x=>ZfW a d x) (bad:=false) (good:=tr (ZdQ (Zd.YR d) (λ_ p=>ZgU d p)))
    (λk x hx hk _=>by
      have hsx:=Zf4 h1 hx;simp only[ZbR,show (k:Int)<((Zd.Instances d).length:Int) from by omega,if_true,Zo,hx,Bq,JD,e2];by_cases hc:0<=Zi.Cell x/\Zi.Cell x<=((Zy.Cells a).length:Int)-1
      · obtain ⟨c,hc1,hc2⟩:=ZlH hc.1 (show Zi.Cell x<((Zy.Cells a).length:Int) by omega)
        rw[if_pos (ZU hc),hc1,Bq];by_cases hp:((Zi.YQ x).length:Int)=((Zl.YD c).length:Int)
        · rw[if_pos hp,QC (XO (Zl0 hsx).2) (λ_ n=>Znc d n) (bad:=.inr false) (good:=.inl (Wq ((k:Int)+1),()))
            (λj n hn hj _=>by
              simp only[ZbP,show (j:Int)<((Zi.YQ x).length:Int) from by omega,if_true,Zo,hn,Bq,JD,e1];constructor
              · intro hh;exact if_pos (ZU hh)
              · intro hh;exact if_neg (λq=>hh ((YH _).1 q)))
            (λ_=>by simp only[ZbP,Int.lt_irrefl,if_false])]
          constructor
          · intro hh;rw[XV (Zbr.2 hh.2.2)]
          · intro hh;rw[Xp (λq=>hh ⟨hc,⟨c,hc2,by omega⟩,Zbr.1 q⟩)]
        · rw[if_neg hp]
          refine ⟨λhh=>?_,λ_=>rfl⟩;obtain ⟨_,⟨c',q1,q2⟩,_⟩:=hh;rw[hc2] at q1;injection q1 with q1;subst q1
          exact absurd (by omega) hp
      · rw[if_neg (by rw[Z4 hc];simp)]
        exact ⟨λhh=>absurd hh.1 hc,λ_=>rfl⟩)
    (λ_=>by
      simp only[ZbR,Int.lt_irrefl,if_false];rw[QC (XO h2) (λ_ p=>ZgU d p) (bad:=.inr false) (good:=.inr true)
        (λk p hx hk _=>by
          simp only[ZbQ,show (k:Int)<((Zd.YR d).length:Int) from by omega,if_true,Zo,hx,Bq,JD,e1];by_cases hc:1<=Yr.Dir p/\Yr.Dir p<=2
          · rw[if_pos (ZU hc)]
            constructor
            · intro hh;exact if_pos (ZU hh.2)
            · intro hh;exact if_neg (λq=>hh ⟨hc,(YH _).1 q⟩)
          · rw[if_neg (by rw[Z4 hc];simp)]
            exact ⟨λhh=>absurd hh.1 hc,λ_=>rfl⟩)
        (λ_=>by simp only[ZbQ,Int.lt_irrefl,if_false])]
      congr 1;by_cases hh:ZdQ (Zd.YR d) (λ_ p=>ZgU d p)
      · rw[XV hh,ZU hh]
      · rw[Xp hh,Z4 hh])]
  rw[ZgL]
theorem ZpV {α:Type} {l:List α} {f:α->List UInt8} (h:∀ x∈l,(f x).length<=4611686018427387904):∀ s∈l.map f,s.length<=4611686018427387904:=by
  intro s hs;obtain ⟨x,hx,rfl⟩:=List.mem_map.1 hs;exact h x hx
theorem ZjJ (a:Zy) (d:Zd) (ha:sm Qp a) (hd:sm Xq d):Zd3 a d=some (tr (Zac a d)):=by
  obtain ⟨h1,h2,h3⟩:=ZfJ hd;have s1:=ZF h1;have s2:=ZF h2;have s3:=ZF h3;unfold Zd3;refine ZdY (YT (ZiO a ha) (λhL=>Zfl (λa1=>Zfl (λa2=>Zfl (λa3=>YT (ZjL a d ha hd) (λhP=>?_))))))
    (P:=Znd a/\¬(14:Int)<((Zd.Instances d).length:Int)/\¬(30:Int)<((Zd.YQ d).length:Int)/\¬(8:Int)<((Zd.YR d).length:Int)/\(ZdQ (Zd.Instances d) (λ_ x=>ZfW a d x)/\ZdQ (Zd.YR d) (λ_ p=>ZgU d p))/\(Vi (Za3 d) (Za3 d).length/\Vi (Zct d) (Zct d).length/\Vi (Zd.YQ d) (Zd.YQ d).length)/\Zhx d) ?_
  · have hi:(Za3 d).length=(Zd.Instances d).length:=by simp[Za3]
    have hp:(Zct d).length=(Zd.YR d).length:=by simp[Zct]
    refine gather (l:=Zd.Instances d) s1 Zi.Name (λk x o hx hk ho=>?_) ?_
    · simp only[ZbL,hk,if_true,Zo,hx,Bq]
    simp only[ZbL,Int.lt_irrefl,if_false];refine gather (l:=Zd.YR d) s2 Yr.Name (λk x o hx hk ho=>?_) ?_
    · simp only[ZbK,hk,if_true,Zo,hx,Bq]
    simp only[ZbK,Int.lt_irrefl,if_false];rw[show List.map Yr.Name (Zd.YR d)=Zct d from rfl,show List.map Zi.Name (Zd.Instances d)=Za3 d from rfl];simp only[ZdO (Za3 d) (by omega) (ZpV (λx hx=>Zfh (Zl0 (Zn4 h1 hx)).1)),ZdO (Zct d) (by omega) (ZpV (λx hx=>Zfh (Zxc (Zn4 h2 hx)))),ZdO (Zd.YQ d) (by omega) (λs hs=>Zfh (Zn4 h3 hs)),Bq];by_cases n1:Vi (Za3 d) (Za3 d).length
    · rw[if_pos (ZU n1)]
      by_cases n2:Vi (Zct d) (Zct d).length
      · rw[if_pos (ZU n2)]
        by_cases n3:Vi (Zd.YQ d) (Zd.YQ d).length
        · rw[if_pos (ZU n3),Zn (by omega),Zn (by omega),Zn (by omega),Zn (by omega)]
          have:=JF (l:=Zd.Instances d) (ρ:=(List (List UInt8))×Int×Unit ⊕ ((List (List UInt8))×Int×Unit ⊕ Bool)) (λk=>((k:Int),Zjb (Zd.YQ d).length (((Zd.Instances d).take k).map Zaw),())) (step:=λv=>Vd d v.1 v.2.1) (good:=.inr (.inr (tr (Zhx d))))
            (λk x hx hk=>by
              have hsx:=Zf4 h1 hx;obtain ⟨e1,e2⟩:=(hP.1 k x hx).last hL (ZF (Zl0 hsx).2);simp only[Vd,show (k:Int)<((Zd.Instances d).length:Int) from by omega,if_true,Zo,hx,Bq];rw[e1,Bq,Zgh e2.1 (by have:=e2.2;omega) (by simp only[List.length_map,List.length_take];omega) (F:=λo=>some (Sum.inl (Wq ((k:Int)+1),o,()))),XR hx,List.map_append,Y8 (by omega)];rfl)
            (by
              simp only[Vd,Int.lt_irrefl,if_false,List.take_length];have:=JF (l:=Zd.YR d) (ρ:=Int×List Int×Unit ⊕ ((List (List UInt8))×Int×Unit ⊕ ((List (List UInt8))×Int×Unit ⊕ Bool))) (λk=>((k:Int),Zjb (Zd.YQ d).length ((Zd.Instances d).map Zaw++(((Zd.YR d).take k).filter (λp=>decide (Yr.Dir p=1))).map Yr.Net),())) (step:=λv=>Vb d v.1 v.2.1) (good:=.inr (.inr (.inr (tr (Zhx d)))))
                (λk p hx hk=>by
                  have hl:=ZrP (d:=d) k (Zd.Instances d).length;rw[List.take_length] at hl;have hpo:=hP.2 k p hx;simp only[Vb,show (k:Int)<((Zd.YR d).length:Int) from by omega,if_true,Zo,hx,Bq,Zpq hx];by_cases d1:Yr.Dir p=1
                  · simp only[d1,if_true]
                    rw[Zgh hpo.2.1 (by have:=hpo.2.2;omega) (by omega) (F:=λo=>some (Sum.inl (Wq ((k:Int)+1),o,()))),Y8 (by omega)]
                  · simp only[d1,if_false]
                    rw[Y8 (by omega)])
                (by
                  simp only[Vb,Int.lt_irrefl,if_false,List.take_length];rw[QC (l:=Zjb (Zd.YQ d).length ((Zd.Instances d).map Zaw++((Zd.YR d).filter (λp=>decide (Yr.Dir p=1))).map Yr.Net)) (show List.length _<=_ by rw[ZgE];omega) (λ_ x=>x=1) (bad:=.inr (.inr (.inr (.inr false)))) (good:=.inr (.inr (.inr (.inr true))))
                    (λk x hx hk _=>by
                      simp only[ZbJ,show (k:Int)<((Zjb (Zd.YQ d).length ((Zd.Instances d).map Zaw++((Zd.YR d).filter (λp=>decide (Yr.Dir p=1))).map Yr.Net)).length:Int) from by omega,if_true,Zo,hx,Bq];constructor
                      · intro hh;rw[if_pos hh]
                      · intro hh;rw[if_neg hh])
                    (λ_=>by simp only[ZbJ,Int.lt_irrefl,if_false])]
                  congr 1;have e:ZdQ (Zjb (Zd.YQ d).length ((Zd.Instances d).map Zaw++((Zd.YR d).filter (λp=>decide (Yr.Dir p=1))).map Yr.Net)) (λ_ x=>x=1)<->Zhx d:=by
                    rw[Zbr];exact Iff.rfl
                  by_cases hh:Zhx d
                  · rw[XV (e.2 hh),ZU hh]
                  · rw[Xp (λq=>hh (e.1 q)),Z4 hh])
              refine (show Zp (λv=>Vb d v.1 v.2.1) ((0:Int),Zjb (Zd.YQ d).length ((Zd.Instances d).map Zaw),())=_ from (by simpa using this)).trans ?_;rfl)
          rw[List.take_zero,List.map_nil,Zmm] at this;refine (show Zp (λv=>Vd d v.1 v.2.1) ((0:Int),List.replicate (Zd.YQ d).length 0,())=_ from this).trans ?_;congr 3;exact QO ⟨λq=>⟨⟨n1,n2,n3⟩,q⟩,λq=>q.2⟩
        · rw[if_neg (by rw[Z4 n3];simp),Z4 (λq=>n3 q.1.2.2)]
      · rw[if_neg (by rw[Z4 n2];simp),Z4 (λq=>n2 q.1.2.1)]
    · rw[if_neg (by rw[Z4 n1];simp),Z4 (λq=>n1 q.1.1)]
  · unfold Zac Zhw
    rw[Zbr,Zbr];constructor
    · rintro ⟨q1,q2,q3,q4,⟨q5,q6⟩,⟨q7,q8,q9⟩,q10⟩
      exact ⟨q1,⟨by omega,by omega,by omega,q7,q9,q8⟩,q5,q6,q10⟩
    · rintro ⟨q1,⟨q2,q3,q4,q7,q9,q8⟩,q5,q6,q10⟩
      exact ⟨q1,by omega,by omega,by omega,⟨q5,q6⟩,⟨q7,q8,q9⟩,q10⟩
def cat {α β:Type} (f:Nat->α->List β):Nat->List α->List β
  | _,[]=>[]
  | k,x::r=>f k x++cat f (k+1) r
theorem Zig {α β:Type} (f:Nat->α->List β):∀ (l r:List α) (m:Nat),cat f m (l++r)=cat f m l++cat f (m+l.length) r
  | [],r,m=>by simp[cat]
  | x::l,r,m=>by
    simp only[List.cons_append,cat,List.length_cons,Zig f l r,List.append_assoc];rw[show m+1+l.length=m+(l.length+1) by omega]
theorem Zfo {α β:Type} {f:Nat->α->List β} {l:List α} {k:Nat} {x:α} (hx:l[k]?=some x):cat f 0 (l.take (k+1))=cat f 0 (l.take k)++f k x:=by
  have hk:=(List.getElem?_eq_some_iff.1 hx).1;rw[XR hx,Zig];simp only[cat,Nat.zero_add,List.length_take,List.append_nil];rw[show min k l.length=k by omega]
theorem XU {α β:Type} {f:Nat->α->List β} {y:β}:∀ {l:List α} {m:Nat},y∈cat f m l<->∃ (k:Nat) (x:α),l[k]?=some x/\y∈f (m+k) x
  | [],m=>by simp[cat]
  | z::r,m=>by
    simp only[cat,List.mem_append,XU (l:=r)];constructor
    · rintro (h | ⟨k,x,h1,h2⟩)
      · exact ⟨0,z,rfl,h⟩
      · exact ⟨k+1,x,by simpa using h1,by rw[show m+(k+1)=m+1+k by omega];exact h2⟩
    · rintro ⟨k,x,h1,h2⟩
      cases k with
      | zero=>simp at h1;subst h1;exact .inl h2
      | succ k=>exact .inr ⟨k,x,by simpa using h1,by rw[show m+1+k=m+(k+1) by omega];exact h2⟩
theorem V9 {α β:Type} {f:Nat->α->List β} {c:Nat}:∀ {l:List α} {m:Nat},(∀ k,∀ x∈l,(f k x).length<=c)->(cat f m l).length<=c*l.length
  | [],m,_=>by simp[cat]
  | z::r,m,h=>by
    simp only[cat,List.length_append,List.length_cons];have h1:=h m z (by simp);have h2:=V9 (f:=f) (l:=r) (m:=m+1) (λk x hx=>h k x (by simp[hx]));rw[Nat.mul_add];omega
theorem Xy {α β ρ:Type} {l:List α} (f:Nat->α->List β) (acc:List β) {step:List β×Int×Unit->Option ((List β×Int×Unit) ⊕ ρ)} {good:ρ}
    (hs:∀ (k:Nat) (x:α),l[k]?=some x->k<l.length->step (acc++cat f 0 (l.take k),(k:Int),())=some (.inl ((acc++cat f 0 (l.take k))++f k x,((k+1:Nat):Int),())))
    (hx:step (acc++cat f 0 l,(l.length:Int),())=some (.inr good)):Zp step (acc,(0:Int),())=some good:=by
  have:=JF (l:=l) (ρ:=ρ) (λk=>(acc++cat f 0 (l.take k),(k:Int),())) (step:=step) (good:=good) (λk x hx hk=>by
    rw[hs k x hx hk,Zfo hx,List.append_assoc]) (by simp only[List.take_length];exact hx)
  simpa[cat] using this
abbrev Pl:=Int×Int×Int×Bool×Unit
def VY (i:Nat) (x:Zi):List Pl:=cat (λj n=>[((i:Int),(j:Int),n,decide ((j:Int)=Wq (((Zi.YQ x).length:Int)-1)),())]) 0 (Zi.YQ x)
def Zfc (j:Nat) (p:Yr):List Pl:=[((-1:Int),(j:Int),Yr.Net p,decide (Yr.Dir p=1),())]
def places (d:Zd):List Pl:=cat VY 0 (Zd.Instances d)++cat Zfc 0 (Zd.YR d)
theorem ZqA (i:Nat) (x:Zi):(VY i x).length<=(Zi.YQ x).length:=by
  have:=V9 (f:=λj n=>[((i:Int),(j:Int),n,decide ((j:Int)=Wq (((Zi.YQ x).length:Int)-1)),())]) (c:=1) (l:=Zi.YQ x) (m:=0) (λ_ _ _=>by simp);simpa[VY] using this
structure Few (d:Zd):Prop where
  insts:(Zd.Instances d).length<=14
  ports:(Zd.YR d).length<=8
  nets:∀ x∈Zd.Instances d,(Zi.YQ x).length<=5
theorem Zac.few {a:Zy} {d:Zd} (h:Zac a d):Few d:=by
  refine ⟨h.2.1.1,h.2.1.2.2.1,λx hx=>?_⟩;obtain ⟨_,⟨c,hc,hn⟩,_⟩:=h.2.2.1 x hx;have:=(h.1.2.1 c (List.mem_of_getElem? hc)).2.1.2.1;omega
theorem Zb2 {d:Zd} (h:Few d) (k:Nat):(cat VY 0 ((Zd.Instances d).take k)).length<=70:=by
  have:=V9 (f:=VY) (c:=5) (l:=(Zd.Instances d).take k) (m:=0) (λi x hx=>by
    have h1:=ZqA i x;have h2:=h.nets x (List.mem_of_mem_take hx);omega)
  have h1:=h.insts;rw[List.length_take] at this;omega
theorem Zgf {d:Zd} (h:Few d) (k:Nat):(cat Zfc 0 ((Zd.YR d).take k)).length<=8:=by
  have:=V9 (f:=Zfc) (c:=1) (l:=(Zd.YR d).take k) (m:=0) (λi x hx=>by simp[Zfc]);have h1:=h.ports;rw[List.length_take] at this;omega
theorem YK {d:Zd} (h:Few d):(places d).length<=78:=by
  have h1:=Zb2 h (Zd.Instances d).length;have h2:=Zgf h (Zd.YR d).length;rw[List.take_length] at h1 h2;unfold places;rw[List.length_append];omega
theorem Xb (d:Zd) (h:Few d):Xt d=some (places d):=by
  have h1:=h.insts;have h2:=h.ports;unfold Xt;refine Xy (l:=Zd.Instances d) VY [] (λk x hx hk=>?_) ?_
  · have hn:=h.nets x (List.mem_of_getElem? hx)
    have hl:=Zb2 h k;simp only[List.nil_append,Jd,show (k:Int)<((Zd.Instances d).length:Int) from by omega,if_true,Zo,hx,Bq];refine Xy (l:=Zi.YQ x) (λj n=>[((k:Int),(j:Int),n,decide ((j:Int)=Wq (((Zi.YQ x).length:Int)-1)),())]) _ (λj n hj hk'=>?_) ?_
    · have hl2:=V9 (f:=λj n=>[((k:Int),(j:Int),n,decide ((j:Int)=Wq (((Zi.YQ x).length:Int)-1)),())]) (c:=1) (l:=(Zi.YQ x).take j) (m:=0) (λ_ _ _=>by simp)
      rw[List.length_take] at hl2;simp only[Jb,show (j:Int)<((Zi.YQ x).length:Int) from by omega,if_true,Zo,hj,Bq];rw[Zn (by rw[List.length_append,List.length_singleton];omega),Y8 (by omega)]
    · simp only[Jb,Int.lt_irrefl,if_false]
      rw[Y8 (by omega)];rfl
  · have hl:=Zb2 h (Zd.Instances d).length
    rw[List.take_length] at hl;simp only[List.nil_append,Jd,Int.lt_irrefl,if_false];refine Xy (l:=Zd.YR d) Zfc _ (λj p hj hk'=>?_) ?_
    · have hl2:=Zgf h j
      simp only[Jc,show (j:Int)<((Zd.YR d).length:Int) from by omega,if_true,Zo,hj,Bq];rw[Zn (by rw[List.length_append,List.length_singleton];omega),Y8 (by omega)];rfl
    · simp only[Jc,Int.lt_irrefl,if_false];rfl
theorem YW (d:Zd) (h:Few d):XD d=some (places d):=by
  have h1:=h.insts;have h2:=h.ports;unfold XD;refine Xy (l:=Zd.Instances d) VY [] (λk x hx hk=>?_) ?_
  · have hn:=h.nets x (List.mem_of_getElem? hx)
    have hl:=Zb2 h k;simp only[List.nil_append,Zbd,show (k:Int)<((Zd.Instances d).length:Int) from by omega,if_true,Zo,hx,Bq];refine Xy (l:=Zi.YQ x) (λj n=>[((k:Int),(j:Int),n,decide ((j:Int)=Wq (((Zi.YQ x).length:Int)-1)),())]) _ (λj n hj hk'=>?_) ?_
    · have hl2:=V9 (f:=λj n=>[((k:Int),(j:Int),n,decide ((j:Int)=Wq (((Zi.YQ x).length:Int)-1)),())]) (c:=1) (l:=(Zi.YQ x).take j) (m:=0) (λ_ _ _=>by simp)
      rw[List.length_take] at hl2;simp only[Zbb,show (j:Int)<((Zi.YQ x).length:Int) from by omega,if_true,Zo,hj,Bq];rw[Zn (by rw[List.length_append,List.length_singleton];omega),Y8 (by omega)]
    · simp only[Zbb,Int.lt_irrefl,if_false]
      rw[Y8 (by omega)];rfl
  · have hl:=Zb2 h (Zd.Instances d).length
    rw[List.take_length] at hl;simp only[List.nil_append,Zbd,Int.lt_irrefl,if_false];refine Xy (l:=Zd.YR d) Zfc _ (λj p hj hk'=>?_) ?_
    · have hl2:=Zgf h j
      simp only[Zbc,show (j:Int)<((Zd.YR d).length:Int) from by omega,if_true,Zo,hj,Bq];rw[Zn (by rw[List.length_append,List.length_singleton];omega),Y8 (by omega)];rfl
    · simp only[Zbc,Int.lt_irrefl,if_false];rfl
def ZdM (net:Int) (i:Nat) (x:Pl):List Int:=if x.2.2.1=net then (if x.2.2.2.1=true then [] else [(i:Int)]) else []
def sinks (d:Zd) (net:Int):List Int:=cat (ZdM net) 0 (places d)
theorem Zcx (net:Int) (l:List Pl) (m:Nat):(cat (ZdM net) m l).length<=l.length:=by
  have:=V9 (f:=ZdM net) (c:=1) (l:=l) (m:=m) (λi x _=>by
    unfold ZdM;split
    · split<;>simp
    · simp)
  omega
theorem Za5 (d:Zd) (net:Int) (h:Few d):ZaR d net=some (sinks d net):=by
  have hp:=YK h;unfold ZaR;rw[Xb d h,Bq];refine Xy (l:=places d) (ZdM net) [] (λk x hx hk=>?_) ?_
  · have hl:=Zcx net ((places d).take k) 0
    rw[List.length_take] at hl;simp only[List.nil_append,Jz,show (k:Int)<((places d).length:Int) from by omega,if_true,Zo,hx,Bq,ZdM,Y8 (show k<=1048576 by omega)];split
    · split
      · rw[List.append_nil]
      · rw[Zn (by
          show (List.length _+1)*8<=_;have:(cat (ZdM net) 0 ((places d).take k)).length<=78:=by omega
          omega)]
    · rw[List.append_nil]
  · simp only[List.nil_append,Jz,Int.lt_irrefl,if_false];rfl
theorem Zbz (d:Zd) (net:Int) (h:Few d):JJ d net=some (sinks d net):=by
  have hp:=YK h;unfold JJ;rw[YW d h,Bq];refine Xy (l:=places d) (ZdM net) [] (λk x hx hk=>?_) ?_
  · have hl:=Zcx net ((places d).take k) 0
    rw[List.length_take] at hl;simp only[List.nil_append,ZbS,show (k:Int)<((places d).length:Int) from by omega,if_true,Zo,hx,Bq,ZdM,Y8 (show k<=1048576 by omega)];split
    · split
      · rw[List.append_nil]
      · rw[Zn (by
          show (List.length _+1)*8<=_;have:(cat (ZdM net) 0 ((places d).take k)).length<=78:=by omega
          omega)]
    · rw[List.append_nil]
  · simp only[List.nil_append,ZbS,Int.lt_irrefl,if_false];rfl
def loads (d:Zd):List Int:=((places d).filter (λx=>!x.2.2.2.1)).map (λx=>x.2.2.1)
theorem ZkS (net:Int):∀ (l:List Pl) (m:Nat),(cat (ZdM net) m l).length=((l.filter (λx=>!x.2.2.2.1)).map (λx=>x.2.2.1)).countP (λy=>decide (y=net))
  | [],m=>by simp[cat]
  | x::r,m=>by
    simp only[cat,List.length_append,ZkS net r,ZdM];obtain ⟨a,b,n,dr,u⟩:=x;cases dr
    · by_cases e:n=net
      · simp[e,Nat.add_comm]
      · simp[e]
    · simp
theorem Zn2 {w:Zq} (h:sm ZfS w):sm (.sl (.int .i64)) (Zq.Parent w)/\sm (.sl (.int .i64)) (Zq.Res w)/\sm (.sl (.int .i64)) (Zq.Cap w)/\sm (.sl (.int .i64)) (Zq.Zc0 w):=by
  refine ⟨?_,?_,?_,?_⟩;all_goals first | exact h.1 | exact h.2.1 | exact h.2.2.1 | exact h.2.2.2.1
theorem Zhp {b:Zc} (h:sm YC b):sm Qp (Zc.Library b)/\sm Xq (Zc.Design b)/\sm (.sl ZfS) (Zc.Yw b):=by
  refine ⟨?_,?_,?_⟩;all_goals first | exact h.1 | exact h.2.1 | exact h.2.2.1 | exact h.2.2.2.1
def ZjZ (w:Zq) (k:Nat) (x:Int):Prop:=(k=0->x=-1/\(Zq.Res w)[0]?=some 0)/\(0<k->0<=x/\x<=(k:Int)-1)
def ZdS (w:Zq) (s:Int):Prop :=
  (1<=(Zq.Parent w).length/\(Zq.Parent w).length<=8)/\(Zq.Res w).length=(Zq.Parent w).length/\(Zq.Cap w).length=(Zq.Parent w).length/\((Zq.Zc0 w).length:Int)=s/\
  ZdQ (Zq.Parent w) (ZjZ w)/\Ze6 (Zq.Res w) 0 1000/\Ze6 (Zq.Cap w) 0 500/\Ze6 (Zq.Zc0 w) 0 (((Zq.Parent w).length:Int)-1)
theorem ZeA (l:List Int) (lo hi:Int) (hl:l.length<=1048576):Xg l lo hi=some (tr (Ze6 l lo hi)):=by
  rw[ZaS l lo hi (by omega)];exact ZcY (Zhy _ _ _)
theorem Zhh (w:Zq) (hw:sm ZfS w) (h1:1<=(Zq.Parent w).length) (h2:(Zq.Res w).length=(Zq.Parent w).length):Zbw w=some (tr (ZdQ (Zq.Parent w) (ZjZ w))):=by
  obtain ⟨a1,a2,a3,a4⟩:=Zn2 hw;have s1:=ZF a1;unfold Zbw;have hr:(Zq.Res w)[0]?=some (Zq.Res w)[0]:=List.getElem?_eq_getElem (by omega);rw[QC (XO a1) (ZjZ w) (bad:=false) (good:=true)
    (λk x hx hk _=>by
      simp only[J7,show (k:Int)<((Zq.Parent w).length:Int) from by omega,if_true,Zo,hx,Bq];unfold ZjZ;by_cases hk0:k=0
      · subst hk0
        rw[if_pos (by rfl),show atI (Zq.Res w) 0=some (Zq.Res w)[0] from hr,hr];simp only[Bq,Option.some.injEq];rw[if_neg (show ¬(0:Int)<((0:Nat):Int) by omega)];constructor
        · intro hh
          obtain ⟨q1,q2⟩:=hh.1 trivial;rw[if_pos q1,if_pos q2]
        · intro hh
          by_cases q1:x=-1
          · rw[if_pos q1,if_neg (λq2=>hh ⟨λ_=>⟨q1,q2⟩,λh=>by omega⟩)]
          · rw[if_neg q1]
      · rw[if_neg (by omega),if_pos (by omega),Jm,Bq,YI (by omega) (by omega)]
        constructor
        · intro hh;rw[if_pos (ZU (hh.2 (by omega)))]
        · intro hh;rw[if_neg (λq=>hh ⟨λh=>absurd h hk0,λ_=>(YH _).1 q⟩)])
    (λ_=>by simp only[J7,Int.lt_irrefl,if_false]),Zfe]
theorem Zlk (w:Zq) (s:Int) (hw:sm ZfS w):Zfv w s=some (tr (ZdS w s)):=by
  obtain ⟨a1,a2,a3,a4⟩:=Zn2 hw;have s1:=ZF a1;have s2:=ZF a2;have s3:=ZF a3;have s4:=ZF a4;unfold Zfv;simp only[Za6,Bq,YI (show (-9223372036854775808:Int)<=((Zq.Parent w).length:Int)-1 by omega) (by omega)];refine ZdY (YT (Jm _ _ _) (λq1=>YS (λq2=>YS (λq3=>YT (Zhh w hw (by omega) (by omega)) (λq4=>YT (ZeA _ _ _ s2) (λq5=>YT (ZeA _ _ _ s3) (λq6=>YS (λq7=>Zb9 (ZeA _ _ _ s4))))))))) ?_;unfold ZdS;constructor
  · rintro ⟨q1,q2,q3,q4,q5,q6,q7,q8⟩
    exact ⟨⟨by omega,by omega⟩,by omega,by omega,q7,q4,q5,q6,q8⟩
  · rintro ⟨q1,q2,q3,q7,q4,q5,q6,q8⟩
    exact ⟨by omega,by omega,by omega,q4,q5,q6,q7,q8⟩
theorem Zo9 {l:List Int} {lo hi:Int}:Ze6 l lo hi<->∀ (k:Nat) (x:Int),l[k]?=some x->lo<=x/\x<=hi:=by
  unfold Ze6;constructor
  · intro h k x hx;exact h x (List.mem_of_getElem? hx)
  · intro h x hx
    obtain ⟨k,hk⟩:=List.mem_iff_getElem?.1 hx;exact h k x hk
theorem Zlt (w:Zq) (s:Int) (hw:sm ZfS w):ZfL w s=some (tr (ZdS w s)):=by
  obtain ⟨a1,a2,a3,a4⟩:=Zn2 hw;have s1:=ZF a1;have s2:=ZF a2;have s3:=ZF a3;have s4:=ZF a4;have e1:Wq (((Zq.Parent w).length:Int)-1)=((Zq.Parent w).length:Int)-1:=YI (by omega) (by omega);unfold ZfL;refine ZdY (Zfl (λq1=>Zfl (λq2=>YS (λq3=>YS (λq4=>YS (λq5=>?_)))))) ?_
    (P:=¬((Zq.Parent w).length:Int)<1/\¬(8:Int)<((Zq.Parent w).length:Int)/\((Zq.Res w).length:Int)=((Zq.Parent w).length:Int)/\((Zq.Cap w).length:Int)=((Zq.Parent w).length:Int)/\((Zq.Zc0 w).length:Int)=s/\
      (ZdQ (Zq.Parent w) (λk x=>(∀ c,(Zq.Cap w)[k]?=some c->0<=c/\c<=500)/\(∀ r,(Zq.Res w)[k]?=some r->0<=r/\r<=1000)/\ZjZ w k x)/\Ze6 (Zq.Zc0 w) 0 (((Zq.Parent w).length:Int)-1)))
  · rw[QC (XO a1) (λk x=>(∀ c,(Zq.Cap w)[k]?=some c->0<=c/\c<=500)/\(∀ r,(Zq.Res w)[k]?=some r->0<=r/\r<=1000)/\ZjZ w k x) (bad:=false) (good:=tr (Ze6 (Zq.Zc0 w) 0 (((Zq.Parent w).length:Int)-1)))
      (λk x hx hk _=>by
        have hc:(Zq.Cap w)[k]?=some (Zq.Cap w)[k]:=List.getElem?_eq_getElem (by omega);have hr:(Zq.Res w)[k]?=some (Zq.Res w)[k]:=List.getElem?_eq_getElem (by omega);simp only[Zdc,show (k:Int)<((Zq.Parent w).length:Int) from by omega,if_true,Zo,hc,hr,hx,Bq,JD,Option.some.injEq,forall_eq'];generalize (Zq.Cap w)[k]=c at hc;generalize (Zq.Res w)[k]=r at hr;by_cases qc:0<=c/\c<=500
        · rw[if_pos (ZU qc)]
          by_cases qr:0<=r/\r<=1000
          · rw[if_pos (ZU qr)]
            unfold ZjZ;by_cases hk0:k=0
            · subst hk0
              rw[if_pos (by rfl),hr];simp only[Option.some.injEq];rw[if_neg (show ¬(0:Int)<((0:Nat):Int) by omega)];constructor
              · rintro ⟨_,_,hh⟩
                obtain ⟨q1,q2⟩:=hh.1 trivial;rw[if_pos q1,if_pos q2]
              · intro hh
                by_cases q1:x=-1
                · rw[if_pos q1,if_neg (λq2=>hh ⟨qc,qr,λ_=>⟨q1,q2⟩,λh=>by omega⟩)]
                · rw[if_neg q1]
            · rw[if_neg (by omega),if_pos (by omega),YI (show (-9223372036854775808:Int)<=(k:Int)-1 by omega) (by omega)]
              constructor
              · intro hh;rw[if_pos (ZU (hh.2.2.2 (by omega)))]
              · intro hh;rw[if_neg (λq=>hh ⟨qc,qr,λh=>absurd h hk0,λ_=>(YH _).1 q⟩)]
          · rw[if_neg (λq=>qr ((YH _).1 q))]
            exact ⟨λhh=>absurd hh.2.1 qr,λ_=>rfl⟩
        · rw[if_neg (λq=>qc ((YH _).1 q))]
          exact ⟨λhh=>absurd hh.1 qc,λ_=>rfl⟩)
      (λ_=>by
        simp only[Zdc,Int.lt_irrefl,if_false];rw[QC (XO a4) (λ_ x=>0<=x/\x<=((Zq.Parent w).length:Int)-1) (bad:=.inr false) (good:=.inr true)
          (λk x hx hk _=>by
            simp only[Zdb,show (k:Int)<((Zq.Zc0 w).length:Int) from by omega,if_true,Zo,hx,Bq,JD,e1];constructor
            · intro hh;rw[if_pos (ZU hh)]
            · intro hh;rw[if_neg (λq=>hh ((YH _).1 q))])
          (λ_=>by simp only[Zdb,Int.lt_irrefl,if_false])]
        congr 1;have e:ZdQ (Zq.Zc0 w) (λ_ x=>0<=x/\x<=((Zq.Parent w).length:Int)-1)<->Ze6 (Zq.Zc0 w) 0 (((Zq.Parent w).length:Int)-1):=Zbr;by_cases hh:Ze6 (Zq.Zc0 w) 0 (((Zq.Parent w).length:Int)-1)
        · rw[XV (e.2 hh),ZU hh]
        · rw[Xp (λq=>hh (e.1 q)),Z4 hh]),ZgL]
  · unfold ZdS
    rw[Zo9 (l:=Zq.Res w),Zo9 (l:=Zq.Cap w)];constructor
    · rintro ⟨q1,q2,q3,q4,q5,q6,q7⟩
      refine ⟨⟨by omega,by omega⟩,by omega,by omega,q5,λk x hx=>(q6 k x hx).2.2,λk r hr=>?_,λk c hc=>?_,q7⟩
      · have hk:=(List.getElem?_eq_some_iff.1 hr).1
        exact (q6 k _ (List.getElem?_eq_getElem (by omega))).2.1 r hr
      · have hk:=(List.getElem?_eq_some_iff.1 hc).1
        exact (q6 k _ (List.getElem?_eq_getElem (by omega))).1 c hc
    · rintro ⟨q1,q2,q3,q5,q6,q7,q8,q9⟩
      exact ⟨by omega,by omega,by omega,by omega,q5,λk x hx=>⟨λc hc=>q8 k c hc,λr hr=>q7 k r hr,q6 k x hx⟩,q9⟩
def Zga (b:Zc):Prop :=
  Zac (Zc.Library b) (Zc.Design b)/\(Zc.Yw b).length=(Zd.YQ (Zc.Design b)).length/\ZdQ (Zc.Yw b) (λk w=>ZdS w ((sinks (Zc.Design b) (k:Int)).length:Int))
theorem ZnO {a:Zy} {d:Zd} (h:Zac a d) {x:Pl} (hx:x∈places d):Znc d x.2.2.1:=by
  unfold places at hx;rcases List.mem_append.1 hx with hx | hx
  · obtain ⟨i,z,hi,hz⟩:=XU.1 hx
    unfold VY at hz;obtain ⟨j,n,hj,hn⟩:=XU.1 hz;simp only[List.mem_singleton] at hn;subst hn;exact (h.2.2.1 z (List.mem_of_getElem? hi)).2.2 n (List.mem_of_getElem? hj)
  · obtain ⟨j,p,hj,hp⟩:=XU.1 hx
    simp only[Zfc,List.mem_singleton] at hp;subst hp;exact (h.2.2.2.1 p (List.mem_of_getElem? hj)).2
theorem Va (b:Zc) (hb:sm YC b):Qs b=some (tr (Zga b)):=by
  obtain ⟨a1,a2,a3⟩:=Zhp hb;have s3:=ZF a3;unfold Qs;refine ZdY (YT (ZjJ _ _ a1 a2) (λhD=>YS (λq1=>?_))) ?_
    (P:=Zac (Zc.Library b) (Zc.Design b)/\((Zc.Yw b).length:Int)=((Zd.YQ (Zc.Design b)).length:Int)/\ZdQ (Zc.Yw b) (λk w=>ZdS w ((sinks (Zc.Design b) (k:Int)).length:Int)))
  · rw[QC (XO a3) (λk w=>ZdS w ((sinks (Zc.Design b) (k:Int)).length:Int)) (bad:=false) (good:=true)
      (λk w hx hk _=>by
        simp only[Zcy,show (k:Int)<((Zc.Yw b).length:Int) from by omega,if_true,Zo,hx,Bq,Zbz _ _ hD.few,Zlt w _ (Zf4 a3 hx)];constructor
        · intro hh;rw[if_pos (ZU hh)]
        · intro hh;rw[if_neg (λq=>hh ((YH _).1 q))])
      (λ_=>by simp only[Zcy,Int.lt_irrefl,if_false]),Zfe]
  · unfold Zga
    rw[show ((Zc.Yw b).length:Int)=((Zd.YQ (Zc.Design b)).length:Int)<->(Zc.Yw b).length=(Zd.YQ (Zc.Design b)).length from by omega]
theorem ZqI {l:List Pl} {k:Nat} {x:Pl} (hx:l[k]?=some x) :
    (((l.take (k+1)).filter (λx=>!x.2.2.2.1)).map (λx=>x.2.2.1))=if x.2.2.2.1=true then (((l.take k).filter (λx=>!x.2.2.2.1)).map (λx=>x.2.2.1)) else (((l.take k).filter (λx=>!x.2.2.2.1)).map (λx=>x.2.2.1))++[x.2.2.1]:=by
  rw[XR hx,List.filter_append,List.map_append];by_cases h:x.2.2.2.1=true
  · rw[if_pos h];simp[h]
  · rw[if_neg h];simp[h]
theorem Zel (b:Zc) (hb:sm YC b):Zdw b=some (tr (Zga b)):=by
  obtain ⟨a1,a2,a3⟩:=Zhp hb;have s3:=ZF a3;unfold Zdw;refine ZdY (YT (ZjB _ _ a1 a2) (λhD=>YS (λq1=>?_))) ?_
    (P:=Zac (Zc.Library b) (Zc.Design b)/\((Zc.Yw b).length:Int)=((Zd.YQ (Zc.Design b)).length:Int)/\ZdQ (Zc.Yw b) (λk w=>ZdS w ((sinks (Zc.Design b) (k:Int)).length:Int)))
  · rw[Zn (by omega),Zn (by omega),Zn (by omega),Zn (by omega),Xb _ hD.few,Bq]
    have hpl:=YK hD.few;have:=JF (l:=places (Zc.Design b)) (ρ:=Bool) (λk=>((k:Int),Zjb (Zc.Yw b).length ((((places (Zc.Design b)).take k).filter (λx=>!x.2.2.2.1)).map (λx=>x.2.2.1)),())) (step:=λv=>Zae b (places (Zc.Design b)) v.1 v.2.1) (good:=tr (ZdQ (Zc.Yw b) (λk w=>ZdS w ((sinks (Zc.Design b) (k:Int)).length:Int))))
      (λk x hx hk=>by
        have hn:=ZnO hD (List.mem_of_getElem? hx);have hl1:=List.length_filter_le (λx:Pl=>!x.2.2.2.1) ((places (Zc.Design b)).take k);rw[List.length_take] at hl1;simp only[Zae,show (k:Int)<((places (Zc.Design b)).length:Int) from by omega,if_true,Zo,hx,Bq,ZqI hx];by_cases hd:x.2.2.2.1=true
        · rw[if_pos hd,if_pos hd,Y8 (by omega)]
        · rw[if_neg hd,if_neg hd,Zgh hn.1 (by have:=hn.2;show x.2.2.1<_;omega) (by rw[List.length_map];omega) (F:=λo=>some (Sum.inl (Wq ((k:Int)+1),o,()))),Y8 (by omega)])
      (by
        simp only[Zae,Int.lt_irrefl,if_false,List.take_length];rw[QC (XO a3) (λk w=>ZdS w ((sinks (Zc.Design b) (k:Int)).length:Int)) (bad:=.inr false) (good:=.inr true)
          (λk w hx hk _=>by
            have hc:(sinks (Zc.Design b) (k:Int)).length=_:=ZkS (k:Int) (places (Zc.Design b)) 0;simp only[Zci,show (k:Int)<((Zc.Yw b).length:Int) from by omega,if_true,Zo,hx,Bq];rw[ZhE hk,Bq,Zlk w _ (Zf4 a3 hx),Bq,hc];constructor
            · intro hh;rw[if_pos (ZU hh)]
            · intro hh;rw[if_neg (λq=>hh ((YH _).1 q))])
          (λ_=>by simp only[Zci,Int.lt_irrefl,if_false])]
        congr 1;by_cases hh:ZdQ (Zc.Yw b) (λk w=>ZdS w ((sinks (Zc.Design b) (k:Int)).length:Int))
        · rw[XV hh,ZU hh]
        · rw[Xp hh,Z4 hh])
    rw[List.take_zero,List.filter_nil,List.map_nil,Zmm] at this;exact this
  · unfold Zga
    rw[show ((Zc.Yw b).length:Int)=((Zd.YQ (Zc.Design b)).length:Int)<->(Zc.Yw b).length=(Zd.YQ (Zc.Design b)).length from by omega]
structure XT (b:Zc):Prop where
  ok:Zga b
  sm:sm YC b
theorem Zgq {α τ ρ:Type} {l:List α} (I:Nat->τ->Prop) (Q:ρ->Prop) {step:τ->Option (τ ⊕ ρ)} {v:τ} (h0:I 0 v)
    (hs:∀ (k:Nat) (x:α) (v:τ),l[k]?=some x->k<l.length->I k v->∃ v',step v=some (.inl v')/\I (k+1) v')
    (hx:∀ v,I l.length v->∃ r,step v=some (.inr r)/\Q r):∃ r,Zp step v=some r/\Q r :=
  ZdH l.length I Q h0 (λk v hk hI=>.inl (hs k l[k] v (List.getElem?_eq_getElem hk) hk hI)) hx
theorem Zfm {α:Type} {l:List α} {i:Int} (h0:0<=i) (h1:i<(l.length:Int)):∃ x,atI l i=some x/\x∈l:=by
  obtain ⟨x,h2,h3⟩:=ZlH h0 h1;exact ⟨x,h2,List.mem_of_getElem? h3⟩
theorem Zsr {a:Zy} {d:Zd} (h:Zac a d) {x:Pl} (hx:x∈places d):∃ n,QV d a x=some n:=by
  unfold QV;split
  · exact ⟨_,rfl⟩
  · rename_i hneg
    unfold places at hx;rcases List.mem_append.1 hx with hx | hx
    · obtain ⟨i,z,hi,hz⟩:=XU.1 hx
      unfold VY at hz;obtain ⟨j,n,hj,hn⟩:=XU.1 hz;simp only[List.mem_singleton] at hn;subst hn;rw[Nat.zero_add] at hneg;obtain ⟨hc,⟨c,hc1,hc2⟩,_⟩:=h.2.2.1 z (List.mem_of_getElem? hi);have hj2:=(List.getElem?_eq_some_iff.1 hj).1;simp only[YJ.instance,YJ.pin,Nat.zero_add,Zo,hi,Bq];rw[Qn hc.1 hc1,Bq];have hp:(Zl.YD c)[j]?=some (Zl.YD c)[j]:=List.getElem?_eq_getElem (by omega);rw[hp,Bq];exact ⟨_,rfl⟩
    · obtain ⟨j,p,hj,hp⟩:=XU.1 hx
      simp only[Zfc,List.mem_singleton] at hp;subst hp;exact absurd (by show (-1:Int)<0;omega) hneg
theorem Zgr {d:Zd} {net y:Int} (h:y∈sinks d net):0<=y/\y<((places d).length:Int):=by
  obtain ⟨k,x,hk,hy⟩:=XU.1 h;have:=(List.getElem?_eq_some_iff.1 hk).1;unfold ZdM at hy;split at hy
  · split at hy
    · cases hy
    · simp only[List.mem_singleton] at hy;omega
  · cases hy
theorem ZdS.par {w:Zq} {s:Int} (h:ZdS w s) {k:Nat} {x:Int} (hx:(Zq.Parent w)[k]?=some x) (hk:0<k):0<=x/\x<=(k:Int)-1:=(h.2.2.2.2.1 k x hx).2 hk
theorem Zh0 {b:Zc} (h:XT b) {k:Nat} {w:Zq} (hw:(Zc.Yw b)[k]?=some w):∃ r,Yk b (k:Int)=some r/\r.length=(Zq.Parent w).length:=by
  have hW:=h.ok.2.2 k w hw;have hD:=h.ok.1;have hf:=hD.few;obtain ⟨⟨l1,l8⟩,lr,lc,ls,ht,ar,ac,asn⟩:=hW;have hpl:=YK hf;have hsl:=Zcx (k:Int) (places (Zc.Design b)) 0;have hsl2:(sinks (Zc.Design b) (k:Int)).length<=78:=by unfold sinks;omega
  unfold Yk;rw[Zo,hw,Bq];unfold XC;rw[Zn (by simp;omega),Bq,Xb _ hf,Bq,Za5 _ _ hf,Bq];refine Zgq (l:=sinks (Zc.Design b) (k:Int)) (λm v=>v.1=(m:Int)/\v.2.1.length=(Zq.Parent w).length) _ ⟨rfl,by simp;omega⟩ ?_ ?_
  · rintro m y ⟨i,l,⟨⟩⟩ hy hm ⟨hi,hl⟩
    simp only at hi hl;subst hi;have hz:(Zq.Zc0 w)[m]?=some (Zq.Zc0 w)[m]:=List.getElem?_eq_getElem (by omega);generalize (Zq.Zc0 w)[m]=z at hz;have hz2:=asn z (List.mem_of_getElem? hz);obtain ⟨q,hq1,_⟩:=Zfm (l:=l) hz2.1 (by omega);obtain ⟨hy1,hy2⟩:=Zgr (List.mem_of_getElem? hy);obtain ⟨p,hp1,hp2⟩:=Zfm hy1 hy2;obtain ⟨c,hc⟩:=Zsr hD hp2;simp only[YN,show (m:Int)<((sinks (Zc.Design b) (k:Int)).length:Int) from by omega,if_true,Zo,hy,hz,Bq,hq1,hp1,hc];exact ⟨_,rfl,by rw[Y8 (by omega)],by simp[hl]⟩
  · rintro ⟨i,l,⟨⟩⟩ ⟨hi,hl⟩
    simp only at hi hl;subst hi;simp only[YN,Int.lt_irrefl,if_false];have:=Zee (σ:=Int×List Int×Unit) (ρ:=(Int×List Int×Unit) ⊕ List Int) (step:=λv=>Xm w v.1 v.2.1) (λv=>(∃ j:Nat,v.1=(j:Int)/\j<(Zq.Parent w).length)/\v.2.1.length=(Zq.Parent w).length) (λv=>v.1.toNat) (λr=>∃ r',r=.inr r'/\r'.length=(Zq.Parent w).length) (v:=(Wq ((l.length:Int)-1),l,()))
      ⟨⟨l.length-1,by show Wq _=_;rw[ZgW (by omega) (by omega)],by omega⟩,hl⟩
      (by
        rintro ⟨i,l,⟨⟩⟩ ⟨⟨j,hj,hj2⟩,hl⟩;simp only at hj hl;subst hj;simp only[Xm];by_cases h0:(0:Int)<(j:Int)
        · rw[if_pos h0]
          have hp:(Zq.Parent w)[j]?=some (Zq.Parent w)[j]:=List.getElem?_eq_getElem (by omega);generalize (Zq.Parent w)[j]=p at hp;have hp2:=(ht j p hp).2 (by omega);obtain ⟨q,hq1,_⟩:=Zfm (l:=l) hp2.1 (by omega);have hl2:l[j]?=some l[j]:=List.getElem?_eq_getElem (by omega);simp only[Zo,hp,Bq,hq1,hl2];left;refine ⟨_,rfl,⟨⟨j-1,by rw[ZgW (by omega) (by omega)],by omega⟩,by simp[hl]⟩,?_⟩;show (Wq ((j:Int)-1)).toNat<((j:Int)).toNat;rw[ZgW (by omega) (by omega)];omega
        · rw[if_neg h0]
          right;exact ⟨_,rfl,_,rfl,hl⟩)
    obtain ⟨r,h1,r',rfl,h3⟩:=this;exact ⟨r',h1,h3⟩
end Go.Proofs.YtgjjlgodlhhdoaaGreatDoor
