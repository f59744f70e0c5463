/-
  Plain laws: numbers and lines as texts, program and reference.
-/
import Derived.Test.YtepbknolmhmipaaGreatDoorLA
import Derived.Test.YtepbknolmhmipaaGreatDoorM
import Derived.Lib.ItoaNum
import Derived.Lib.Join
namespace Go.Proofs.YtepbknolmhmipaaGreatDoor
set_option linter.unusedVariables false
set_option linter.unusedSimpArgs false
open Go Go.Sx
theorem ZAk:10 ^ (9+1)=10000000000:=by decide
theorem digit_eq {u:Nat} (h:u<10):bytesOf [IntKind.wrap IntKind.u8 (Wq ((48:Int)+(u:Int)))]=[UInt8.ofNat (48+u)]:=by
 rw[Zar (by omega) (by omega)];have e:IntKind.wrap IntKind.u8 ((48:Int)+(u:Int))=((48+u:Nat):Int):=by
  have:IntKind.wrap IntKind.u8 ((48:Int)+(u:Int))=((48:Int)+(u:Int)) % 256:=rfl;rw[this];omega
 rw[e];rfl
theorem Zk5 {u:Nat} (h:u<10):Go.Lib.decDigits u=[UInt8.ofNat (48+u)]:=by rw[Go.Lib.decDigits,dif_pos h]
theorem ZoM {u:Nat} (h:¬u<10):Go.Lib.decDigits u=Go.Lib.decDigits (u / 10)++[UInt8.ofNat (48+u % 10)]:=by rw[Go.Lib.decDigits,dif_neg h]
theorem Zk4:∀ (k u:Nat),u<10 ^ (k+1)->(Go.Lib.decDigits u).length<=k+1
 | 0,u,h=>by rw[Zk5 (by simpa using h)];simp
 | k+1,u,h=>by
  by_cases c:u<10
  ·rw[Zk5 c];simp
  ·rw[ZoM c,List.length_append]
   have:=Zk4 k (u / 10) (by rw[Nat.pow_succ] at h;omega);simp;omega
def NumIn (n:Int):Prop:=-1000000000<=n/\n<=1000000000
theorem ZiP {n:Int} (h:NumIn n):(Go.Lib.itoa n).length<=11:=by
 obtain ⟨h0,h1⟩:=h;unfold Go.Lib.itoa;split
 ·have:=Zk4 9 n.natAbs (by rw[ZAk];omega)
  simp only[List.length_cons];omega
 ·have:=Zk4 9 n.toNat (by rw[ZAk];omega)
  omega
theorem Zu2 (u:Nat):Int.tdiv (u:Int) 10=((u / 10:Nat):Int):=by rw[Int.tdiv_eq_ediv_of_nonneg (by omega)];omega
theorem ZvP (u:Nat):Int.tmod (u:Int) 10=((u % 10:Nat):Int):=by rw[Int.tmod_eq_emod_of_nonneg (by omega)];omega
theorem ZnC:∀ (k u:Nat),u<=1000000000->(∀ r,Y1 k (u:Int)=some r->r=Go.Lib.decDigits u)/\(u<10 ^ k->1<=k->Y1 k (u:Int)=some (Go.Lib.decDigits u)):=by
 intro k;induction k with
 | zero=>intro u _;exact ⟨λr h=>(by cases h),λ_ h=>(by omega)⟩
 | succ k ih =>
  intro u hu;by_cases c:u<10
  ·have e:Y1 (k+1) (u:Int)=some (Go.Lib.decDigits u):=by
    show YB _ _=_;unfold YB;rw[if_neg (by omega),if_pos (by omega),digit_eq c,Zk5 c]
   exact ⟨λr h=>by rw[e] at h;exact (Option.some.inj h).symm,λ_ _=>e⟩
  ·have hl:=Zk4 9 (u / 10) (by rw[ZAk];omega)
   have e:Y1 (k+1) (u:Int)=(Y1 k ((u / 10:Nat):Int)).bind λr0=>Zp ((r0.length:Int)+1<=(9223372036854775807:Int)) <| some (r0++[UInt8.ofNat (48+u % 10)]):=by
    show YB _ _=_;unfold YB;rw[if_neg (by omega),if_neg (by omega),Zu2,ZvP,digit_eq (by omega),Zar (by omega) (by omega)];rfl
   obtain ⟨i1,i2⟩:=ih (u / 10) (by omega);refine ⟨λr h=>?_,λh1 h2=>?_⟩
   ·rw[e] at h
    obtain ⟨r0,h0,h⟩:=Option.bind_eq_some_iff.1 h;have:=i1 r0 h0;subst this;rw[Zd (by omega)] at h;rw[ZoM c];exact (Option.some.inj h).symm
   ·have hk:1<=k:=by
     rcases Nat.eq_zero_or_pos k with rfl | q
     ·simp at h1;omega
     ·exact q
    rw[e,i2 (by rw[Nat.pow_succ] at h1;omega) hk,Bq,Zd (by omega),ZoM c]
theorem number_eq {n:Int} (h:NumIn n):Zaw n=some (Go.Lib.itoa n):=by
 obtain ⟨h0,h1⟩:=h;have p10:10 ^ 10=10000000000:=by decide
 unfold Zaw Go.Lib.itoa;by_cases c:n<0
 ·rw[if_pos c]
  have hl:=Zk4 9 n.natAbs (by omega);have en:(0:Int)-n=((n.natAbs:Nat):Int):=by omega
  have e:∀ k,Y1 (k+1) n=(Y1 k ((n.natAbs:Nat):Int)).bind λr0=>Zp ((1:Int)+(r0.length:Int)<=(9223372036854775807:Int)) <| some ([(45:UInt8)]++r0):=λk=>by
   show YB _ _=_;unfold YB;rw[if_pos c,Zar (by omega) (by omega),en];rfl
  refine ZnG ⟨11,?_⟩ λk r hk=>?_
  ·rw[e 10,(ZnC 10 n.natAbs (by omega)).2 (by omega) (by omega),Bq,Zd (by omega)]
   rfl
  ·cases k with
   | zero=>cases hk
   | succ k =>
    rw[e k] at hk;obtain ⟨r0,h0',hk⟩:=Option.bind_eq_some_iff.1 hk;have:=(ZnC k n.natAbs (by omega)).1 r0 h0';subst this;rw[Zd (by omega)] at hk;exact (Option.some.inj hk).symm
 ·rw[if_neg c]
  have en:n=((n.toNat:Nat):Int):=by omega
  rw[en,Int.toNat_natCast];exact ZnG ⟨10,(ZnC 10 n.toNat (by omega)).2 (by omega) (by omega)⟩ λk r hk=>(ZnC k n.toNat (by omega)).1 r hk
theorem ZgC {n:Int} (h:NumIn n):Jy n=some (Go.Lib.itoa n):=by
 obtain ⟨h0,h1⟩:=h;unfold Jy;rw[Zd (by omega),Zd (by omega)]
def Zfj:List Int->List UInt8
 | []=>[]
 | n::r=>[32]++Go.Lib.itoa n++Zfj r
theorem ZlR:∀ a b:List Int,Zfj (a++b)=Zfj a++Zfj b
 | [],_=>rfl
 | n::a,b=>by
  show [32]++Go.Lib.itoa n++Zfj (a++b)=[32]++Go.Lib.itoa n++Zfj a++Zfj b;rw[ZlR a b];simp
theorem ZgF:∀ {l:List Int},(∀ n∈l,NumIn n)->(Zfj l).length<=12*l.length
 | [],_=>Nat.le_refl _
 | n::r,h=>by
  have h1:=ZiP (h n (by simp));have h2:=ZgF (l:=r) λx hx=>h x (List.mem_cons_of_mem _ hx);show ([32]++Go.Lib.itoa n++Zfj r).length<=_;simp only[List.length_append,List.length_cons,List.length_nil];omega
theorem ZrK:∀ (n:Int) (r:List Int),[32]++Go.Lib.join ((n::r).map Go.Lib.itoa) [32]=Zfj (n::r):=by
 intro n r;rw[List.map_cons,Go.Lib.join_cons];have:∀ r:List Int,Go.Lib.joinTail [32] (r.map Go.Lib.itoa)=Zfj r:=by
  intro r;induction r with
  | nil=>rfl
  | cons x r ih =>
   show ([32]++Go.Lib.itoa x)++Go.Lib.joinTail [32] (r.map Go.Lib.itoa)=[32]++Go.Lib.itoa x++Zfj r;rw[ih]
 rw[this];show _=[32]++Go.Lib.itoa n++Zfj r;simp
theorem ZjS {l:List Int} (hl:l.length<=1000) (h:∀ n∈l,NumIn n):YH l=some (Zfj l):=by
 unfold YH;refine Yr l.length (λk v=>v=(Zfj (l.take k),(k:Int),())) _ rfl ?_ ?_
 ·rintro k _ hk rfl
  left;have hx:l[k]?=some l[k]:=List.getElem?_eq_getElem hk;generalize l[k]=x at hx;have h1:=ZgF (l:=l.take k) λn hn=>h n (List.mem_of_mem_take hn);have hN:=h x (List.mem_of_getElem? hx);have h2:=ZiP hN;rw[List.length_take] at h1;refine ⟨(Zfj (l.take (k+1)),((k+1:Nat):Int),()),?_,rfl⟩;dsimp only;unfold JO;rw[if_pos (by omega),Zd (by simp only[List.length_cons,List.length_nil];omega),Zu,hx,Bq,number_eq hN,Bq,Zd (by simp only[List.length_append,List.length_cons,List.length_nil];omega),Zar (by omega) (by omega),Yy hx,ZlR];show some (Sum.inl (Zfj (l.take k)++[32]++Go.Lib.itoa x,(k:Int)+1,()))=some (Sum.inl (Zfj (l.take k)++([32]++Go.Lib.itoa x++[]),((k+1:Nat):Int),()));simp
 ·rintro _ rfl
  dsimp only;unfold JO;rw[if_neg (by omega),List.take_length]
theorem ZpK:∀ {l:List (List UInt8)} {c:Nat},(∀ x∈l,x.length<=c)->(Go.Lib.join l [32]).length<=(c+1)*l.length
 | [],c,_=>by simp[Go.Lib.join_nil]
 | x::r,c,h=>by
  rw[Go.Lib.join_cons,List.length_append];have h0:=h x (by simp);have key:∀ r:List (List UInt8),(∀ x∈r,x.length<=c)->(Go.Lib.joinTail [32] r).length<=(c+1)*r.length:=by
   intro r hr;induction r with
   | nil=>simp[Go.Lib.joinTail]
   | cons y r ih =>
    have h1:=hr y (by simp);have h2:=ih λx hx=>hr x (List.mem_cons_of_mem _ hx);show (([32]++y)++Go.Lib.joinTail [32] r).length<=_;simp only[List.length_append,List.length_cons,List.length_nil,Nat.mul_add,Nat.mul_one];omega
  have:=key r λy hy=>h y (List.mem_cons_of_mem _ hy);simp only[List.length_cons,Nat.mul_add,Nat.mul_one];omega
theorem join_eq {l:List Int} (hl:l.length<=1000) (h:∀ n∈l,NumIn n):ZiN l [32]=some (Go.Lib.join (l.map Go.Lib.itoa) [32]):=by
 unfold ZiN;rw[Zd (by omega),Zd (by omega),Zd (by omega),Zd (by omega),Int.toNat_natCast];refine Yr l.length (λk v=>v.1=(k:Int)/\v.2.1.length=l.length/\v.2.1.take k=(l.take k).map Go.Lib.itoa) _ ⟨rfl,by simp,rfl⟩ ?_ ?_
 ·rintro k ⟨i,out,⟨⟩⟩ hk ⟨hi,hlen,ht⟩
  simp only at hi hlen ht;subst hi;left;have hx:l[k]?=some l[k]:=List.getElem?_eq_getElem hk;generalize l[k]=x at hx;have hy:out[k]?=some (out[k]'(by omega)):=List.getElem?_eq_getElem (by omega);refine ⟨(((k+1:Nat):Int),out.set k (Go.Lib.itoa x),()),?_,rfl,by simp[hlen],?_⟩
  ·dsimp only
   unfold Zds;rw[if_pos (by omega),Zu,hx,Bq,ZgC (h x (List.mem_of_getElem? hx)),Bq,Zu,hy,Bq,Zar (by omega) (by omega),Int.toNat_natCast];rfl
  ·have hx2:(out.set k (Go.Lib.itoa x))[k]?=some (Go.Lib.itoa x):=by rw[List.getElem?_set_self (by omega)]
   show (out.set k (Go.Lib.itoa x)).take (k+1)=_;rw[Yy hx2,Yy hx,List.map_append,List.take_set,ht,List.set_eq_of_length_le (by simp;omega)];rfl
 ·rintro ⟨i,out,⟨⟩⟩ ⟨hi,hlen,ht⟩
  simp only at hi hlen ht;subst hi;have e:out=l.map Go.Lib.itoa:=by
   rw[List.take_length] at ht;rw[<-ht,List.take_of_length_le (by omega)]
  subst e;have hj:=ZpK (l:=l.map Go.Lib.itoa) (c:=11) λx hx=>by
   obtain ⟨n,hn,rfl⟩:=List.mem_map.1 hx;exact ZiP (h n hn)
  rw[List.length_map] at hj;dsimp only;unfold Zds;rw[if_neg (by omega),Zd (by rw[List.length_map];omega),Zd (by omega)]
def Zii (words:List (List UInt8)) (nums:List Int):List UInt8:=Go.Lib.join words [32]++Zfj nums++[10]
theorem ZjP {words:List (List UInt8)} {nums:List Int} (hw:words.length<=10) (hc:∀ x∈words,x.length<=1000) (hn:nums.length<=10) (h:∀ n∈nums,NumIn n) :
  Vw words nums=some (Zii words nums)/\(Zii words nums).length<=11000:=by
 have hj:=ZpK hc;have hk:=ZgF h;have hj2:(1000+1)*words.length<=10010:=by omega
 refine ⟨?_,?_⟩
 ·unfold Vw Zii
  rw[Zd (by omega),Zd (by omega)];cases nums with
  | nil =>
   rw[if_neg (by simp),Zd (by simp only[List.length_cons,List.length_nil];omega)];simp[Zfj]
  | cons n r =>
   have e:=ZrK n r;have e2:(Go.Lib.join ((n::r).map Go.Lib.itoa) [32]).length<=200:=by
    have:=congrArg List.length e;rw[List.length_append] at this;omega
   rw[if_pos (by simp only[List.length_cons];omega),join_eq (by omega) h,Bq,Zd (by simp only[List.length_cons,List.length_nil];omega),e,Zd (by omega),Zd (by simp only[List.length_append,List.length_cons,List.length_nil] at hk hn ⊢;omega)]
 ·unfold Zii
  simp only[List.length_append,List.length_cons,List.length_nil];omega
theorem Zfi {s:List UInt8} (h:QL s=true):s.length<=8:=by
 unfold QL at h;simp only[Bool.and_eq_true,decide_eq_true_eq] at h;exact h.1.1.2
theorem ZeK {α:Type} {f:α->List UInt8} {l:List α} (h:X6 (l.map f) l.length) {k:Nat} {x:α} (hx:l[k]?=some x):QL (f x)=true :=
 (h k (f x) (List.getElem?_eq_some_iff.1 hx).1 (by rw[List.getElem?_map,hx];rfl)).1
noncomputable def ZlW (a:Zt) (d:Zg) (x:Pl):List UInt8:=(Vb a d x).getD []
theorem ZqA {a:Zt} {d:Zg} (h:Zba a d) {x:Pl} (hx:x∈Zw d):Vb a d x=some (ZlW a d x)/\Y9 d a x=some (ZlW a d x)/\(ZlW a d x).length<=17:=by
 have key:∃ n,Vb a d x=some n/\Y9 d a x=some n/\n.length<=17:=by
  have hD:=h.2.1;unfold Zw at hx;rcases List.mem_append.1 hx with hx | hx
  ·obtain ⟨i,z,hi,hz⟩:=ZdH.1 hx
   unfold Zhx at hz;obtain ⟨j,n,hj,hn⟩:=ZdH.1 hz;simp only[List.mem_singleton] at hn;subst hn;obtain ⟨hc,⟨c,hc1,hc2⟩,_⟩:=h.2.2.1 z (List.mem_of_getElem? hi);have hj2:=(List.getElem?_eq_some_iff.1 hj).1;have hp:(Zk.Yz c)[j]?=some (Zk.Yz c)[j]:=List.getElem?_eq_getElem (by omega);generalize (Zk.Yz c)[j]=p at hp;have n1:(Zl.Name z).length<=8:=Zfi (ZeK (f:=Zl.Name) (by have:=hD.2.2.2.1;unfold ZcP at this;rw[List.length_map] at this;exact this) hi);have n2:(Yv.Name p).length<=8:=Zfi (ZeK (f:=Yv.Name) (h.1.2.1 c (List.mem_of_getElem? hc1)).2.1.2.2.1 hp);refine ⟨Zl.Name z++[(47:UInt8)]++Yv.Name p,?_,?_,?_⟩
   ·simp only[Vb,Ya.instance,Ya.pin,Nat.zero_add]
    rw[if_neg (by omega),Zu,hi,Bq,Zd (by simp only[List.length_cons,List.length_nil];omega),Zbc hc.1 hc1,Bq,Zu,hp,Bq,Zd (by simp only[List.length_append,List.length_cons,List.length_nil];omega)]
   ·simp only[Y9,YA.instance,YA.pin,Nat.zero_add]
    rw[if_neg (by omega),Zu,hi,Bq,Zd (by simp only[List.length_cons,List.length_nil];omega),Zbc hc.1 hc1,Bq,Zu,hp,Bq,Zd (by simp only[List.length_append,List.length_cons,List.length_nil];omega)]
   ·simp only[List.length_append,List.length_cons,List.length_nil];omega
  ·obtain ⟨j,p,hj,hp⟩:=ZdH.1 hx
   simp only[Zi7,List.mem_singleton] at hp;subst hp;have n1:(Ye.Name p).length<=8:=Zfi (ZeK (f:=Ye.Name) (by have:=hD.2.2.2.2.2;unfold ZaN at this;rw[List.length_map] at this;exact this) hj);refine ⟨Ye.Name p,?_,?_,by omega⟩
   ·simp only[Vb,Ya.instance,Ya.pin,Nat.zero_add]
    rw[if_pos (by omega),Zu,hj,Bq]
   ·simp only[Y9,YA.instance,YA.pin,Nat.zero_add]
    rw[if_pos (by omega),Zu,hj,Bq]
 obtain ⟨n,h1,h2,h3⟩:=key;have e:ZlW a d x=n:=by unfold ZlW;rw[h1];rfl
 rw[e];exact ⟨h1,h2,h3⟩
noncomputable def Jm (b:Zj) (i:Int):List UInt8:=(X4 b i).getD []
theorem ZbZ {b:Zj} (h:ZdN b) {i:Int} (h0:0<=i) (h1:i<((Zw (Zj.Design b)).length:Int)) :
  X4 b i=some (Jm b i)/\Zcp (Zj.Library b) (Zj.Design b) i=some (Jm b i)/\(∃ x,atI (Zw (Zj.Design b)) i=some x/\Y9 (Zj.Design b) (Zj.Library b) x=some (Jm b i))/\(Jm b i).length<=17:=by
 have hD:=h.ok.1;have hf:=hD.few;have hpl:=V9 hf;obtain ⟨x,hx,hm⟩:=ZkY h0 h1;obtain ⟨n1,n2,n3⟩:=ZqA hD hm;have e1:X4 b i=some (ZlW (Zj.Library b) (Zj.Design b) x):=by
  unfold X4;rw[QA _ hf,Bq,hx,Bq,n1,Bq]
 have e:Jm b i=ZlW (Zj.Library b) (Zj.Design b) x:=by unfold Jm;rw[e1];rfl
 rw[e];refine ⟨e1,?_,⟨x,hx,n2⟩,n3⟩;unfold Zcp Zj0;obtain ⟨sl,sd,_⟩:=ZnM h.sm;rw[ZfN _ _ sl sd,Bq,if_pos (Yf hD),QA _ hf,Bq,Qr,Bq,Zar (by omega) (by omega),if_pos (Yf (by omega)),hx,Bq,Bq,if_pos rfl];show (Vb _ _ x).bind _=_;rw[n1,Bq]
theorem Zgm {b:Zj} (h:ZdN b) {v:Z0} (hv:Z0.Zw v=Zw (Zj.Design b)) (hb:Z0.Block v=b) {i:Int} (h0:0<=i) (h1:i<((Zw (Zj.Design b)).length:Int)):YX v i=some (Jm b i):=by
 obtain ⟨_,_,⟨x,hx,hn⟩,_⟩:=ZbZ h h0 h1;unfold YX;rw[hv,hx,Bq,hb,hn,Bq]
def Zts (b:Zj) (i:Int):Prop:=0<=i/\i<((Zw (Zj.Design b)).length:Int)
theorem Zts.len {b:Zj} (h:ZdN b) {i:Int} (hi:Zts b i):(Jm b i).length<=17:=(ZbZ h hi.1 hi.2).2.2.2
noncomputable def Vi (b:Zj) (w:List UInt8):List Int->List UInt8
 | []=>[]
 | i::r=>[32]++w++[32]++Jm b i++Vi b w r
theorem ZfA (b:Zj) (w:List UInt8):∀ x y:List Int,Vi b w (x++y)=Vi b w x++Vi b w y
 | [],_=>rfl
 | n::a,y=>by
  show [32]++w++[32]++Jm b n++Vi b w (a++y)=[32]++w++[32]++Jm b n++Vi b w a++Vi b w y;rw[ZfA b w a y];simp
theorem Zac {b:Zj} (h:ZdN b) {w:List UInt8} (hw:w.length<=10):∀ {l:List Int},(∀ i∈l,Zts b i)->(Vi b w l).length<=30*l.length
 | [],_=>Nat.le_refl _
 | n::r,hi=>by
  have h1:=(hi n (by simp)).len h;have h2:=Zac h hw (l:=r) λx hx=>hi x (List.mem_cons_of_mem _ hx);show ([32]++w++[32]++Jm b n++Vi b w r).length<=_;simp only[List.length_append,List.length_cons,List.length_nil];omega
theorem Zm5 (b:Zj) (w:List UInt8) (i:Int):Vi b w [i]=[32]++w++[32]++Jm b i:=by
 show [32]++w++[32]++Jm b i++[]=_;simp
theorem Zfv {b:Zj} (h:ZdN b) {w:List UInt8} (hw:w.length<=10) {l:List Int} (hl:l.length<=4) (hi:∀ i∈l,Zts b i):Qt b w l=some (Vi b w l):=by
 unfold Qt;refine Yr l.length (λk v=>v=(Vi b w (l.take k),(k:Int),())) _ rfl ?_ ?_
 ·rintro k _ hk rfl
  left;have hx:l[k]?=some l[k]:=List.getElem?_eq_getElem hk;generalize l[k]=x at hx;have h1:=Zac h hw (l:=l.take k) λn hn=>hi n (List.mem_of_mem_take hn);have hN:=hi x (List.mem_of_getElem? hx);have h2:=hN.len h;obtain ⟨_,e2,_,_⟩:=ZbZ h hN.1 hN.2;rw[List.length_take] at h1;refine ⟨(Vi b w (l.take (k+1)),((k+1:Nat):Int),()),?_,rfl⟩;dsimp only;unfold Za1;rw[if_pos (by omega),Zd (by simp only[List.length_append,List.length_cons,List.length_nil];omega),Zd (by simp only[List.length_append,List.length_cons,List.length_nil];omega),Zd (by simp only[List.length_append,List.length_cons,List.length_nil];omega),Zu,hx,Bq,e2,Bq,Zd (by simp only[List.length_append,List.length_cons,List.length_nil];omega),Zar (by omega) (by omega),Yy hx,ZfA,Zm5];show some (Sum.inl (Vi b w (l.take k)++[32]++w++[32]++Jm b x,(k:Int)+1,()))=some (Sum.inl (Vi b w (l.take k)++([32]++w++[32]++Jm b x),((k+1:Nat):Int),()));simp
 ·rintro _ rfl
  dsimp only;unfold Za1;rw[if_neg (by omega),List.take_length]
abbrev Zyw:List (List UInt8):=[[(32:UInt8),(102:UInt8),(114:UInt8),(111:UInt8),(109:UInt8),(32:UInt8)],[(32:UInt8),(116:UInt8),(104:UInt8),(114:UInt8),(111:UInt8),(117:UInt8),(103:UInt8),(104:UInt8),(32:UInt8)],[(32:UInt8),(116:UInt8),(111:UInt8),(32:UInt8)]]
theorem Zk7 {b:Zj} (h:ZdN b) {v:Z0} (hv:Z0.Zw v=Zw (Zj.Design b)) (hb:Z0.Block v=b) {q:Int} {w:List UInt8} (hq:atI Zyw q=some ([32]++w++[32])) (hw:w.length<=10)
  {l:List Int} (hl:l.length<=4) (hi:∀ i∈l,Zts b i) {s:List UInt8} (hs:s.length<=10000) :
  Zq (λu=>Xg v q l u.1 u.2.1) (s,(0:Int),())=some (.inl (s++Vi b w l,Wq (q+1),())):=by
 refine Yr l.length (λk u=>u=(s++Vi b w (l.take k),(k:Int),())) _ (by simp[Vi]) ?_ ?_
 ·rintro k _ hk rfl
  left;have hx:l[k]?=some l[k]:=List.getElem?_eq_getElem hk;generalize l[k]=x at hx;have h1:=Zac h hw (l:=l.take k) λn hn=>hi n (List.mem_of_mem_take hn);have hN:=hi x (List.mem_of_getElem? hx);have h2:=hN.len h;obtain ⟨_,_,⟨p,e3,e4⟩,_⟩:=ZbZ h hN.1 hN.2;rw[List.length_take] at h1;refine ⟨(s++Vi b w (l.take (k+1)),((k+1:Nat):Int),()),?_,rfl⟩;dsimp only;unfold Xg;rw[if_pos (by omega),Zu,hx,Bq,hv,e3,Bq,hq,Bq,hb,e4,Bq,Zd (by simp only[List.length_append,List.length_cons,List.length_nil];omega),Zd (by simp only[List.length_append,List.length_cons,List.length_nil];omega),Zar (by omega) (by omega),Yy hx,ZfA,Zm5];simp
 ·rintro _ rfl
  dsimp only;unfold Xg;rw[if_neg (by omega),List.take_length]
def Zj2:List UInt8:=[102,114,111,109]
def ZaG:List UInt8:=[116,104,114,111,117,103,104]
def wTo:List UInt8:=[116,111]
theorem Zna.ZqN {b:Zj} {l:List Int} (h:Zna (Zw (Zj.Design b)).length l):∀ i∈l,Zts b i:=λi hi=>⟨(h.2 i hi).1,by have:=(h.2 i hi).2;omega⟩
noncomputable def ZhH (b:Zj) (e:Ze):List UInt8:=Vi b Zj2 (Ze.From e)++Vi b ZaG (Ze.Through e)++Vi b wTo (Ze.To e)
theorem Zn5 {b:Zj} (h:ZdN b) {v:Z0} (hv:Z0.Zw v=Zw (Zj.Design b)) (hb:Z0.Block v=b) {e:Ze} (he:Ziw (Zw (Zj.Design b)).length e) {s:List UInt8} (hs:s.length<=1000) :
  Zq (λu=>Yj v e u.1 u.2.1) (s,(0:Int),())=some (s++ZhH b e)/\(ZhH b e).length<=400:=by
 obtain ⟨h1,h2,h3,_⟩:=he;have l1:=Zac h (w:=Zj2) (by decide) h1.ZqN;have l2:=Zac h (w:=ZaG) (by decide) h2.ZqN;have l3:=Zac h (w:=wTo) (by decide) h3.ZqN;have k1:=h1.1;have k2:=h2.1;have k3:=h3.1;have ln:((List.length [Ze.From e,Ze.Through e,Ze.To e]:Nat):Int)=3:=rfl;refine ⟨?_,by unfold ZhH;simp only[List.length_append];omega⟩;rw[Zgw (v':=(s++Vi b Zj2 (Ze.From e),(1:Int),())),Zgw (v':=(s++Vi b Zj2 (Ze.From e)++Vi b ZaG (Ze.Through e),(2:Int),())),Zgw (v':=(s++Vi b Zj2 (Ze.From e)++Vi b ZaG (Ze.Through e)++Vi b wTo (Ze.To e),(3:Int),()))]
 ·refine ZeP ?_
  dsimp only;unfold Yj;rw[ln,if_neg (by omega)];unfold ZhH;simp
 ·dsimp only
  unfold Yj;rw[ln,if_pos (by omega),show atI [Ze.From e,Ze.Through e,Ze.To e] (2:Int)=some (Ze.To e) from rfl,Bq,Zk7 h hv hb (q:=2) (w:=wTo) rfl (by decide) k3 h3.ZqN (by simp only[List.length_append];omega)];rfl
 ·dsimp only
  unfold Yj;rw[ln,if_pos (by omega),show atI [Ze.From e,Ze.Through e,Ze.To e] (1:Int)=some (Ze.Through e) from rfl,Bq,Zk7 h hv hb (q:=1) (w:=ZaG) rfl (by decide) k2 h2.ZqN (by simp only[List.length_append];omega)];rfl
 ·dsimp only
  unfold Yj;rw[ln,if_pos (by omega),show atI [Ze.From e,Ze.Through e,Ze.To e] (0:Int)=some (Ze.From e) from rfl,Bq,Zk7 h hv hb (q:=0) (w:=Zj2) rfl (by decide) k1 h1.ZqN (by omega)];rfl
theorem ZqW {p q r:Prop} (h:q/\r/\p):p/\q/\r:=⟨h.2.2,h.1,h.2.1⟩
noncomputable def ZsD (b:Zj) (e:Ze):List UInt8:=(Xy b e).getD []
theorem Zjq {b:Zj} (h:ZdN b) {v:Z0} (hv:Z0.Zw v=Zw (Zj.Design b)) (hb:Z0.Block v=b) {e:Ze} (hs:sm Z4 e) (he:Ziw (Zw (Zj.Design b)).length e) :
  Xy b e=some (ZsD b e)/\Y3 v e=some (ZsD b e)/\(ZsD b e).length<=1000:=by
 have key:∃ t,Xy b e=some t/\Y3 v e=some t/\t.length<=1000:=by
  obtain ⟨h1,h2,h3,_,_,hV⟩:=id he;have l1:=Zac h (w:=Zj2) (by decide) h1.ZqN;have l2:=Zac h (w:=ZaG) (by decide) h2.ZqN;have l3:=Zac h (w:=wTo) (by decide) h3.ZqN;have k1:=h1.1;have k2:=h2.1;have k3:=h3.1;have e1:=Zfv h (w:=Zj2) (by decide) k1 h1.ZqN;have e2:=Zfv h (w:=ZaG) (by decide) k2 h2.ZqN;have e3:=Zfv h (w:=wTo) (by decide) k3 h3.ZqN;unfold Zj2 at e1 l1;unfold ZaG at e2 l2;unfold wTo at e3 l3;have hK:Ze.Kind e=1\/(Ze.Kind e≠1/\NumIn (Ze.Value e)/\(Ze.Kind e=2\/Ze.Kind e=3\/Ze.Kind e=4)):=by
   unfold Zn3 at hV;unfold NumIn;omega
  rcases hK with hK | ⟨hK,hN,hK2⟩
  ·obtain ⟨q,_⟩:=Zn5 h hv hb he (s:=[102,97,108,115,101]) (by decide)
   refine ⟨[102,97,108,115,101]++ZhH b e,ZqW ⟨?_,?_,?_⟩⟩
   ·unfold Y3
    rw[hK,show atI ZiH (1:Int)=some [102,97,108,115,101] from rfl,Bq,if_pos rfl,q]
   ·unfold ZhH Zj2 ZaG wTo
    simp only[List.length_append,List.length_cons,List.length_nil];omega
   ·unfold Xy
    rw[ZaU b h e hs,Bq,if_pos (Yf he),hK,show Wq ((1:Int)-1)=0 from rfl];show (some [102,97,108,115,101]).bind _=_;rw[Bq,if_pos rfl,e1,Bq,Zd (by simp only[List.length_append,List.length_cons,List.length_nil];omega),e2,Bq,Zd (by simp only[List.length_append,List.length_cons,List.length_nil];omega),e3,Bq,Zd (by simp only[List.length_append,List.length_cons,List.length_nil];omega)];unfold ZhH Zj2 ZaG wTo;simp only[List.append_assoc]
  ·have hd:=ZiP hN
   have hw:∃ x0:List UInt8,x0.length<=10/\atI ZiH (Ze.Kind e)=some x0/\atI ([[(102:UInt8),(97:UInt8),(108:UInt8),(115:UInt8),(101:UInt8)],[(99:UInt8),(121:UInt8),(99:UInt8),(108:UInt8),(101:UInt8),(115:UInt8)],[(109:UInt8),(97:UInt8),(120:UInt8)],[(109:UInt8),(105:UInt8),(110:UInt8)]]) (Wq (Ze.Kind e-(1:Int)))=some x0:=by
    rcases hK2 with k | k | k
    ·rw[k];exact ⟨[99,121,99,108,101,115],by decide,rfl,rfl⟩
    ·rw[k];exact ⟨[109,97,120],by decide,rfl,rfl⟩
    ·rw[k];exact ⟨[109,105,110],by decide,rfl,rfl⟩
   obtain ⟨x0,hx0,hx1,hx2⟩:=hw;obtain ⟨q,_⟩:=Zn5 h hv hb he (s:=x0++([32]++Go.Lib.itoa (Ze.Value e))) (by simp only[List.length_append,List.length_cons,List.length_nil];omega);refine ⟨x0++([32]++Go.Lib.itoa (Ze.Value e))++ZhH b e,ZqW ⟨?_,?_,?_⟩⟩
   ·unfold Y3
    rw[hx1,Bq,if_neg hK,ZgC hN,Bq,Zd (by simp only[List.length_append,List.length_cons,List.length_nil];omega),Zd (by simp only[List.length_append,List.length_cons,List.length_nil];omega),q]
   ·unfold ZhH Zj2 ZaG wTo
    simp only[List.length_append,List.length_cons,List.length_nil];omega
   ·unfold Xy
    rw[ZaU b h e hs,Bq,if_pos (Yf he),hx2,Bq,if_neg hK,Zd (by simp only[List.length_append,List.length_cons,List.length_nil];omega),number_eq hN,Bq,Zd (by simp only[List.length_append,List.length_cons,List.length_nil];omega),e1,Bq,Zd (by simp only[List.length_append,List.length_cons,List.length_nil];omega),e2,Bq,Zd (by simp only[List.length_append,List.length_cons,List.length_nil];omega),e3,Bq,Zd (by simp only[List.length_append,List.length_cons,List.length_nil];omega)];unfold ZhH Zj2 ZaG wTo;simp only[List.append_assoc]
 obtain ⟨t,h1,h2,h3⟩:=key;have e0:ZsD b e=t:=by unfold ZsD;rw[h1];rfl
 rw[e0];exact ⟨h1,h2,h3⟩
theorem Zss {l:List Zc} {k:Nat} {c:Zc} (h:Zdm l k c=true) (hk:(k:Int)<=1000000) :
  (NumIn (Zc.Yn c)/\NumIn (Zc.YK c)/\NumIn (Zc.Y8 c))/\((Zc.Source c=-1/\NumIn (Zc.VQ c)/\NumIn (Zc.Zae c)/\NumIn (Zc.Zad c))\/(0<=Zc.Source c/\Zc.Source c<(k:Int)/\NumIn (Zc.Divide c))):=by
 have hsrc:=Zk1 h hk;unfold Zdm Zgn at h;simp only[Bool.and_eq_true,decide_eq_true_eq,Y7] at h;obtain ⟨⟨⟨⟨⟨p1,p2⟩,p3⟩,p4⟩,p5,p6⟩,h⟩:=h;refine ⟨⟨⟨by omega,by omega⟩,⟨by omega,by omega⟩,⟨by omega,by omega⟩⟩,?_⟩;by_cases hs:Zc.Source c=-1
 ·rw[if_pos hs] at h
  left;unfold Zi8 at h;simp only[Bool.and_eq_true,decide_eq_true_eq,Y7] at h;obtain ⟨⟨⟨⟨⟨⟨q1,q2⟩,q3,q4⟩,q5,q6⟩,_⟩,_⟩,_⟩:=h;rw[Zar (by omega) (by omega)] at q4 q6;exact ⟨hs,⟨by omega,by omega⟩,⟨by omega,by omega⟩,⟨by omega,by omega⟩⟩
 ·rw[if_neg hs] at h
  right;have:=hsrc.resolve_left hs;unfold ZsG at h;simp only[Bool.and_eq_true,decide_eq_true_eq,Y7] at h;obtain ⟨⟨⟨⟨⟨_,d1,d2⟩,_⟩,_⟩,_⟩,_⟩:=h;exact ⟨this.1,this.2,⟨by omega,by omega⟩⟩
theorem ZuT {x y z:Int} (h1:NumIn x) (h2:NumIn y) (h3:NumIn z):YH [x,y,z]=some (Zfj [x,y,z])/\(Zfj [x,y,z]).length<=36:=by
 have h:∀ n∈[x,y,z],NumIn n:=by
  intro n hn;simp only[List.mem_cons,List.not_mem_nil,or_false] at hn;rcases hn with rfl | rfl | rfl<;>assumption
 exact ⟨ZjS (by simp) h,ZgF h⟩
noncomputable def Zuo (b:Zj) (l:List Zc) (c:Zc):List UInt8:=(Vd b l c).getD []
theorem Zf9 {b:Zj} (h:ZdN b) {v:Z0} (hv:Z0.Zw v=Zw (Zj.Design b)) (hb:Z0.Block v=b) {l:List Zc} (hC:ZcS l) {k:Nat} {c:Zc} (hc:l[k]?=some c) (hp:Zc.Place c<((Zw (Zj.Design b)).length:Int)) :
  Vd b l c=some (Zuo b l c)/\Xi v l c=some (Zuo b l c++[10])/\(Zuo b l c).length<=1000:=by
 have hkl:k<l.length:=(List.getElem?_eq_some_iff.1 hc).1;have h6:=hC.1;have hp0:=hC.place (List.mem_of_getElem? hc);obtain ⟨ep,_,_,lp⟩:=ZbZ h hp0 hp;have ip:=Zgm h hv hb hp0 hp;have ln:=Zfi (ZeK (f:=Zc.Name) hC.2.2 hc);obtain ⟨⟨n1,n2,n3⟩,hcase⟩:=Zss (hC.2.1 k c (by omega) hc) (by omega);obtain ⟨e1,l1⟩:=ZuT n1 n2 n3;have key:∃ t,Vd b l c=some t/\Xi v l c=some (t++[10])/\t.length<=1000:=by
  rcases hcase with ⟨hs,m1,m2,m3⟩ | ⟨hs0,hs1,hd⟩
  ·obtain ⟨e2,l2⟩:=ZuT m1 m2 m3
   refine ⟨[99,108,111,99,107,32]++Zc.Name c++[32]++Jm b (Zc.Place c)++Zfj [Zc.VQ c,Zc.Zae c,Zc.Zad c]++Zfj [Zc.Yn c,Zc.YK c,Zc.Y8 c],?_,?_,?_⟩
   ·unfold Vd
    rw[e1,Bq,if_pos (by omega),Zd (by simp only[List.length_append,List.length_cons,List.length_nil];omega),Zd (by simp only[List.length_append,List.length_cons,List.length_nil];omega),ep,Bq,Zd (by simp only[List.length_append,List.length_cons,List.length_nil];omega),e2,Bq,Zd (by simp only[List.length_append,List.length_cons,List.length_nil];omega),Zd (by simp only[List.length_append,List.length_cons,List.length_nil];omega)]
   ·unfold Xi
    rw[if_pos (by omega),ip,Bq,(ZjP (by simp) (by
     intro x hx;simp only[List.mem_cons,List.not_mem_nil,or_false] at hx;rcases hx with rfl | rfl | rfl
     ·decide
     ·omega
     ·omega) (by simp) (by
     intro x hx;simp only[List.mem_cons,List.not_mem_nil,or_false] at hx;rcases hx with rfl | rfl | rfl | rfl | rfl | rfl<;>assumption)).1,Bq]
    congr 1;simp[Zii,Go.Lib.join_cons,Go.Lib.joinTail,Zfj]
   ·simp only[List.length_append,List.length_cons,List.length_nil];omega
  ·obtain ⟨x,hx⟩:∃ x,l[(Zc.Source c).toNat]?=some x:=⟨_,List.getElem?_eq_getElem (by omega)⟩
   have hx1:atI l (Zc.Source c)=some x:=Zbc hs0 hx;have lx:=Zfi (ZeK (f:=Zc.Name) hC.2.2 hx);have ld:=ZiP hd;have e2:YH [Zc.Divide c]=some (Zfj [Zc.Divide c]):=ZjS (by simp) (by
    intro n hn;simp only[List.mem_cons,List.not_mem_nil,or_false] at hn;subst hn;exact hd)
   have l2:(Zfj [Zc.Divide c]).length<=12:=ZgF (l:=[Zc.Divide c]) (by
    intro n hn;simp only[List.mem_cons,List.not_mem_nil,or_false] at hn;subst hn;exact hd)
   by_cases hI:Zc.Zex c=true
   ·refine ⟨[103,101,110,101,114,97,116,101,100,32]++Zc.Name c++[32]++Jm b (Zc.Place c)++[32]++Zc.Name x++Zfj [Zc.Divide c]++[32,105,110,118,101,114,116]++Zfj [Zc.Yn c,Zc.YK c,Zc.Y8 c],?_,?_,?_⟩
    ·unfold Vd
     rw[e1,Bq,if_neg (by omega),if_pos hI,Zd (by simp only[List.length_append,List.length_cons,List.length_nil];omega),Zd (by simp only[List.length_append,List.length_cons,List.length_nil];omega),hx1,Bq,ep,Bq,Zd (by simp only[List.length_append,List.length_cons,List.length_nil];omega),Zd (by simp only[List.length_append,List.length_cons,List.length_nil];omega),Zd (by simp only[List.length_append,List.length_cons,List.length_nil];omega),e2,Bq,Zd (by simp only[List.length_append,List.length_cons,List.length_nil];omega),Zd (by simp only[List.length_append,List.length_cons,List.length_nil];omega),Zd (by simp only[List.length_append,List.length_cons,List.length_nil];omega)]
    ·unfold Xi
     rw[if_neg (by omega),if_pos hI,hx1,Bq,ip,Bq,ZgC hd,Bq,(ZjP (by simp) (by
      intro y hy;simp only[List.mem_cons,List.not_mem_nil,or_false] at hy;rcases hy with rfl | rfl | rfl | rfl | rfl | rfl
      ·decide
      ·omega
      ·omega
      ·omega
      ·omega
      ·decide) (by simp) (by
      intro x hx;simp only[List.mem_cons,List.not_mem_nil,or_false] at hx;rcases hx with rfl | rfl | rfl<;>assumption)).1,Bq]
     congr 1;simp[Zii,Go.Lib.join_cons,Go.Lib.joinTail,Zfj]
    ·simp only[List.length_append,List.length_cons,List.length_nil];omega
   ·refine ⟨[103,101,110,101,114,97,116,101,100,32]++Zc.Name c++[32]++Jm b (Zc.Place c)++[32]++Zc.Name x++Zfj [Zc.Divide c]++[32,112,108,97,105,110]++Zfj [Zc.Yn c,Zc.YK c,Zc.Y8 c],?_,?_,?_⟩
    ·unfold Vd
     rw[e1,Bq,if_neg (by omega),if_neg hI,Zd (by simp only[List.length_append,List.length_cons,List.length_nil];omega),Zd (by simp only[List.length_append,List.length_cons,List.length_nil];omega),hx1,Bq,ep,Bq,Zd (by simp only[List.length_append,List.length_cons,List.length_nil];omega),Zd (by simp only[List.length_append,List.length_cons,List.length_nil];omega),Zd (by simp only[List.length_append,List.length_cons,List.length_nil];omega),e2,Bq,Zd (by simp only[List.length_append,List.length_cons,List.length_nil];omega),Zd (by simp only[List.length_append,List.length_cons,List.length_nil];omega),Zd (by simp only[List.length_append,List.length_cons,List.length_nil];omega)]
    ·unfold Xi
     rw[if_neg (by omega),if_neg hI,hx1,Bq,ip,Bq,ZgC hd,Bq,(ZjP (by simp) (by
      intro y hy;simp only[List.mem_cons,List.not_mem_nil,or_false] at hy;rcases hy with rfl | rfl | rfl | rfl | rfl | rfl
      ·decide
      ·omega
      ·omega
      ·omega
      ·omega
      ·decide) (by simp) (by
      intro x hx;simp only[List.mem_cons,List.not_mem_nil,or_false] at hx;rcases hx with rfl | rfl | rfl<;>assumption)).1,Bq]
     congr 1;simp[Zii,Go.Lib.join_cons,Go.Lib.joinTail,Zfj]
    ·simp only[List.length_append,List.length_cons,List.length_nil];omega
 obtain ⟨t,q1,q2,q3⟩:=key;have e0:Zuo b l c=t:=by unfold Zuo;rw[q1];rfl
 rw[e0];exact ⟨q1,q2,q3⟩
def ZeU {α:Type} (f:α->List UInt8):List α->List UInt8
 | []=>[]
 | x::r=>f x++ZeU f r
theorem Zk0 {α:Type} (f:α->List UInt8):∀ x y:List α,ZeU f (x++y)=ZeU f x++ZeU f y
 | [],_=>rfl
 | n::a,y=>by
  show f n++ZeU f (a++y)=f n++ZeU f a++ZeU f y;rw[Zk0 f a y];simp
theorem Zsp {α:Type} (f:α->List UInt8) (x:α):ZeU f [x]=f x:=by
 show f x++[]=_;simp
theorem Znf {α:Type} {f:α->List UInt8} {c:Nat}:∀ {l:List α},(∀ x∈l,(f x).length<=c)->(ZeU f l).length<=c*l.length
 | [],_=>Nat.zero_le _
 | n::r,h=>by
  have h1:=h n (by simp);have h2:=Znf (l:=r) λx hx=>h x (List.mem_cons_of_mem _ hx);show (f n++ZeU f r).length<=_;simp only[List.length_append,List.length_cons,Nat.mul_add,Nat.mul_one];omega
theorem Zcr {α ρ:Type} {l:List α} (f:α->List UInt8) (c:Nat) (R:ρ) {step:List UInt8×Int×Unit->Option ((List UInt8×Int×Unit) ⊕ ρ)} {s:List UInt8} (hf:∀ x∈l,(f x).length<=c)
  (hs:∀ (k:Nat) (x:α) (u:List UInt8),l[k]?=some x->k<l.length->u.length<=s.length+c*l.length->step (u,((k:Nat):Int),())=some (.inl (u++f x,((k+1:Nat):Int),())))
  (hx:(s++ZeU f l).length<=s.length+c*l.length->step (s++ZeU f l,((l.length:Nat):Int),())=some (.inr R)):Zq step (s,(0:Int),())=some R:=by
 refine Yr l.length (λk u=>u=(s++ZeU f (l.take k),(k:Int),())) _ (by simp[ZeU]) ?_ ?_
 ·rintro k _ hk rfl
  left;have hx:l[k]?=some l[k]:=List.getElem?_eq_getElem hk;generalize l[k]=x at hx;have h1:=Znf (l:=l.take k) λn hn=>hf n (List.mem_of_mem_take hn);have h2:c*(l.take k).length<=c*l.length:=Nat.mul_le_mul_left _ (by rw[List.length_take];omega);refine ⟨_,hs k x _ hx hk (by rw[List.length_append];omega),?_⟩;rw[Yy hx,Zk0,Zsp];simp
 ·rintro _ rfl
  have h1:=Znf hf;rw[List.take_length];exact hx (by rw[List.length_append];omega)
theorem ZrH {α:Type} {f:α->List UInt8} {l:List α} (h:X6 (l.map f) l.length) {x:α} (hx:x∈l):QL (f x)=true:=by
 obtain ⟨k,hk⟩:=List.mem_iff_getElem?.1 hx;exact ZeK h hk
theorem Zo6 {l:List Int} (hl:l.length<=10) (h:∀ n∈l,NumIn n):YH l=some (Zfj l)/\(Zfj l).length<=120:=by
 have:=ZgF h;exact ⟨ZjS (by omega) h,by omega⟩
noncomputable def Zuq (w:List UInt8) (b:Zj) (cl:List Zc) (ns:Zh->List Int) (x:Zh):List UInt8:=Zii [w,Jm b (Zh.Place x),((atI cl (Zh.Clock x)).map Zc.Name).getD []] (ns x)
theorem ZmT {b:Zj} {cl:List Zc} (hC:ZcS cl) {drv:Bool} {l:List Zh} {k:Nat} {x:Zh} (hx:Zf1 (Zw (Zj.Design b)) (cl.length:Int) drv l k x) :
  Zts b (Zh.Place x)/\(∃ c,atI cl (Zh.Clock x)=some c/\(Zc.Name c).length<=8)/\NumIn (Yb.Early (Zh.Delay x))/\NumIn (Yb.Late (Zh.Delay x))/\NumIn (Yb.Early (Zh.Za2 x))/\NumIn (Yb.Late (Zh.Za2 x)):=by
 obtain ⟨⟨a1,a2⟩,_,_,⟨c1,c2⟩,⟨d1,d2,d3⟩,⟨s1,s2,s3⟩,_⟩:=hx;obtain ⟨c,hc,hm⟩:=ZkY c1 (show Zh.Clock x<(cl.length:Int) by omega);exact ⟨⟨a1,by omega⟩,⟨c,hc,Zfi (ZrH (f:=Zc.Name) hC.2.2 hm)⟩,⟨by omega,by omega⟩,⟨by omega,by omega⟩,⟨by omega,by omega⟩,⟨by omega,by omega⟩⟩
theorem ZoQ {w:List UInt8} {b:Zj} {cl:List Zc} {ns:Zh->List Int} {x:Zh} {c:Zc} (hc:atI cl (Zh.Clock x)=some c):Zuq w b cl ns x=Zii [w,Jm b (Zh.Place x),Zc.Name c] (ns x):=by
 unfold Zuq;rw[hc];rfl
def Zrv (x:Zh):List Int:=[Yb.Early (Zh.Delay x),Yb.Late (Zh.Delay x),Yb.Early (Zh.Za2 x),Yb.Late (Zh.Za2 x)]
def ZlT (x:Zh):List Int:=[Yb.Early (Zh.Delay x),Yb.Late (Zh.Delay x)]
def ZoL (c:Zm):List UInt8:=Zii [[99,111,114,110,101,114],Zm.Name c] [Zm.Xq c,Zm.Qn c,Zm.XK c,Zm.QG c]
noncomputable def exT (b:Zj) (e:Ze):List UInt8:=Zii [[101,120,99,101,112,116],ZsD b e] []
noncomputable def inT (b:Zj) (cl:List Zc):Zh->List UInt8:=Zuq [105,110,112,117,116] b cl Zrv
noncomputable def outT (b:Zj) (cl:List Zc):Zh->List UInt8:=Zuq [111,117,116,112,117,116] b cl ZlT
noncomputable def clT (b:Zj) (cl:List Zc) (c:Zc):List UInt8:=Zuo b cl c++[10]
theorem ZkM {c:Zm} (h:ZdO c):Vw [[99,111,114,110,101,114],Zm.Name c] [Zm.Xq c,Zm.Qn c,Zm.XK c,Zm.QG c]=some (ZoL c)/\(ZoL c).length<=11000/\(∀ n∈[Zm.Xq c,Zm.Qn c,Zm.XK c,Zm.QG c],NumIn n)/\(Zm.Name c).length<=8:=by
 obtain ⟨h0,⟨h1,h2,h3⟩,⟨h4,h5,h6⟩⟩:=h;have hl:=Zfi h0;have hN:∀ n∈[Zm.Xq c,Zm.Qn c,Zm.XK c,Zm.QG c],NumIn n:=by
  intro n hn;simp only[List.mem_cons,List.not_mem_nil,or_false] at hn;rcases hn with rfl | rfl | rfl | rfl<;>exact ⟨by omega,by omega⟩
 obtain ⟨q1,q2⟩:=ZjP (words:=[[99,111,114,110,101,114],Zm.Name c]) (nums:=[Zm.Xq c,Zm.Qn c,Zm.XK c,Zm.QG c]) (by simp) (by
  intro x hx;simp only[List.mem_cons,List.not_mem_nil,or_false] at hx;rcases hx with rfl | rfl
  ·decide
  ·omega) (by simp) hN
 exact ⟨q1,q2,hN,hl⟩
theorem Zpp {s:Zo} (hC:Zew (Zo.X5 s)) {u:List UInt8} (hu:u.length<=1000000000000) :
  Zq (λv=>XV s v.1 v.2.1) (u,(0:Int),())=some (.inr (.inr (.inr (.inr (u++ZeU ZoL (Zo.X5 s))))))/\
  Zq (λv=>Jp s v.1 v.2.1) (u,(0:Int),())=some (.inr (.inr (.inr (.inr (u++ZeU ZoL (Zo.X5 s)))))):=by
 have h4:=hC.1;refine ⟨Zcr ZoL 11000 _ (λx hx=>(ZkM (hC.2.1 x hx)).2.1) (λk x u' hx hk hlen=>?_) (λ_=>?_),Zcr ZoL 11000 _ (λx hx=>(ZkM (hC.2.1 x hx)).2.1) (λk x u' hx hk hlen=>?_) (λ_=>?_)⟩
 ·obtain ⟨q1,q2,_⟩:=ZkM (hC.2.1 x (List.mem_of_getElem? hx))
  dsimp only;unfold XV;rw[if_pos (by omega),Zu,hx,Bq,q1,Bq,Zd (by omega),Zar (by omega) (by omega)];rfl
 ·dsimp only
  unfold XV;rw[if_neg (by omega)]
 ·obtain ⟨_,q2,q3,q4⟩:=ZkM (hC.2.1 x (List.mem_of_getElem? hx))
  obtain ⟨n1,n2⟩:=Zo6 (by simp) q3;dsimp only;unfold Jp;rw[if_pos (by omega),Zu,hx,Bq,Zd (by simp only[List.length_append,List.length_cons,List.length_nil];omega),Zd (by simp only[List.length_append,List.length_cons,List.length_nil];omega),n1,Bq,Zd (by simp only[List.length_append,List.length_cons,List.length_nil];omega),Zd (by simp only[List.length_append,List.length_cons,List.length_nil];omega),Zar (by omega) (by omega)];have e:u'++[(99:UInt8),(111:UInt8),(114:UInt8),(110:UInt8),(101:UInt8),(114:UInt8),(32:UInt8)]++Zm.Name x++Zfj [Zm.Xq x,Zm.Qn x,Zm.XK x,Zm.QG x]++[(10:UInt8)]=u'++ZoL x:=by
   simp[ZoL,Zii,Go.Lib.join_cons,Go.Lib.joinTail]
  rw[e];rfl
 ·dsimp only
  unfold Jp;rw[if_neg (by omega)]
theorem ZoP {b:Zj} (h:ZdN b) {v:Z0} (hv:Z0.Zw v=Zw (Zj.Design b)) (hb:Z0.Block v=b) {e:Ze} (hs:sm Z4 e) (he:Ziw (Zw (Zj.Design b)).length e) :
  Vw [[101,120,99,101,112,116],ZsD b e] ([]:List Int)=some (exT b e)/\(exT b e).length<=11000:=by
 obtain ⟨_,_,l⟩:=Zjq h hv hb hs he;exact ZjP (words:=[[101,120,99,101,112,116],ZsD b e]) (nums:=[]) (by simp) (by
  intro x hx;simp only[List.mem_cons,List.not_mem_nil,or_false] at hx;rcases hx with rfl | rfl
  ·decide
  ·omega) (by simp) (by simp)
theorem Zrj {b:Zj} (h:ZdN b) {v:Z0} (hv:Z0.Zw v=Zw (Zj.Design b)) (hb:Z0.Block v=b) {s:Zo} (hs:sm Vh s) (hS:Znb (Zw (Zj.Design b)) s) {u:List UInt8} (hu:u.length<=100000000000) :
  Zq (λu=>XW v s u.1 u.2.1) (u,(0:Int),())=some (.inr (.inr (.inr (u++ZeU (exT b) (Zo.Exceptions s)++ZeU ZoL (Zo.X5 s)))))/\
  Zq (λu=>Jq b s u.1 u.2.1) (u,(0:Int),())=some (.inr (.inr (.inr (u++ZeU (exT b) (Zo.Exceptions s)++ZeU ZoL (Zo.X5 s))))):=by
 obtain ⟨_,_,_,a4,_⟩:=Zl5 hs;obtain ⟨_,_,_,_,h6,hE,hC⟩:=hS;refine ⟨Zcr (exT b) 11000 _ (λx hx=>(ZoP h hv hb (Zgr a4 hx) (hE x hx)).2) (λk x u' hx hk hlen=>?_) (λhlen=>?_),Zcr (exT b) 11000 _ (λx hx=>(ZoP h hv hb (Zgr a4 hx) (hE x hx)).2) (λk x u' hx hk hlen=>?_) (λhlen=>?_)⟩
 ·have hm:=List.mem_of_getElem? hx
  obtain ⟨q1,q2⟩:=ZoP h hv hb (Zgr a4 hm) (hE x hm);obtain ⟨_,e2,_⟩:=Zjq h hv hb (Zgr a4 hm) (hE x hm);dsimp only;unfold XW;rw[if_pos (by omega),Zu,hx,Bq,e2,Bq,q1,Bq,Zd (by omega),Zar (by omega) (by omega)];rfl
 ·dsimp only
  unfold XW;rw[if_neg (by omega)];exact (Zpp hC (by omega)).1
 ·have hm:=List.mem_of_getElem? hx
  obtain ⟨e1,_,e3⟩:=Zjq h hv hb (Zgr a4 hm) (hE x hm);dsimp only;unfold Jq;rw[if_pos (by omega),Zd (by simp only[List.length_append,List.length_cons,List.length_nil];omega),Zu,hx,Bq,e1,Bq,Zd (by simp only[List.length_append,List.length_cons,List.length_nil];omega),Zd (by simp only[List.length_append,List.length_cons,List.length_nil];omega),Zar (by omega) (by omega)];have e:u'++[(101:UInt8),(120:UInt8),(99:UInt8),(101:UInt8),(112:UInt8),(116:UInt8),(32:UInt8)]++ZsD b x++[(10:UInt8)]=u'++exT b x:=by
   simp[exT,Zii,Go.Lib.join_cons,Go.Lib.joinTail,Zfj]
  rw[e];rfl
 ·dsimp only
  unfold Jq;rw[if_neg (by omega)];exact (Zpp hC (by omega)).2
theorem ZkO {b:Zj} (h:ZdN b) {cl:List Zc} {w:List UInt8} (hw:w.length<=10) {ns:Zh->List Int} {x:Zh} (hp:Zts b (Zh.Place x)) {c:Zc} (hc:atI cl (Zh.Clock x)=some c) (hn:(Zc.Name c).length<=8) (hl:(ns x).length<=10) (hN:∀ n∈ns x,NumIn n) :
  Vw [w,Jm b (Zh.Place x),Zc.Name c] (ns x)=some (Zuq w b cl ns x)/\(Zuq w b cl ns x).length<=11000:=by
 have:=hp.len h;rw[ZoQ hc];exact ZjP (by simp) (by
  intro y hy;simp only[List.mem_cons,List.not_mem_nil,or_false] at hy;rcases hy with rfl | rfl | rfl<;>omega) hl hN
theorem Zlp {b:Zj} {cl:List Zc} (hC:ZcS cl) {drv:Bool} {l:List Zh} {k:Nat} {x:Zh} (hx:Zf1 (Zw (Zj.Design b)) (cl.length:Int) drv l k x):(∀ n∈Zrv x,NumIn n)/\(∀ n∈ZlT x,NumIn n):=by
 obtain ⟨_,_,n1,n2,n3,n4⟩:=ZmT hC hx;refine ⟨?_,?_⟩
 ·intro n hn
  unfold Zrv at hn;simp only[List.mem_cons,List.not_mem_nil,or_false] at hn;rcases hn with rfl | rfl | rfl | rfl<;>assumption
 ·intro n hn
  unfold ZlT at hn;simp only[List.mem_cons,List.not_mem_nil,or_false] at hn;rcases hn with rfl | rfl<;>assumption
theorem ZnE {b:Zj} (h:ZdN b) {cl:List Zc} (hC:ZcS cl) {drv:Bool} {l:List Zh} (hE:ZfB (Zw (Zj.Design b)) (cl.length:Int) drv l) {x:Zh} (hx:x∈l):(outT b cl x).length<=11000/\(inT b cl x).length<=11000:=by
 obtain ⟨k,hk⟩:=List.mem_iff_getElem?.1 hx;obtain ⟨hp,⟨c,hc,hn⟩,_⟩:=ZmT hC (hE k x hk);obtain ⟨i1,i2⟩:=Zlp hC (hE k x hk);exact ⟨(ZkO h (by decide) hp hc hn (by simp[ZlT]) i2).2,(ZkO h (by decide) hp hc hn (by simp[Zrv]) i1).2⟩
theorem ZpY {b:Zj} (h:ZdN b) {v:Z0} (hv:Z0.Zw v=Zw (Zj.Design b)) (hb:Z0.Block v=b) {s:Zo} (hs:sm Vh s) (hS:Znb (Zw (Zj.Design b)) s) {u:List UInt8} (hu:u.length<=30000000000) :
  Zq (λu=>XY v s u.1 u.2.1) (u,(0:Int),())=some (.inr (.inr (u++ZeU (outT b (Zo.Yk s)) (Zo.Vp s)++ZeU (exT b) (Zo.Exceptions s)++ZeU ZoL (Zo.X5 s))))/\
  Zq (λu=>Jr b s u.1 u.2.1) (u,(0:Int),())=some (.inr (.inr (u++ZeU (outT b (Zo.Yk s)) (Zo.Vp s)++ZeU (exT b) (Zo.Exceptions s)++ZeU ZoL (Zo.X5 s)))):=by
 obtain ⟨_,_,a3,_,_⟩:=Zl5 hs;have hsm:=Zv a3;obtain ⟨hC,_,_,hO,_⟩:=id hS;refine ⟨Zcr (outT b (Zo.Yk s)) 11000 _ (λx hx=>(ZnE h hC hO hx).1) (λk x u' hx hk hlen=>?_) (λhlen=>?_),Zcr (outT b (Zo.Yk s)) 11000 _ (λx hx=>(ZnE h hC hO hx).1) (λk x u' hx hk hlen=>?_) (λhlen=>?_)⟩
 ·obtain ⟨hp,⟨c,hc,hn⟩,_⟩:=ZmT hC (hO k x hx)
  obtain ⟨q1,q2⟩:=ZkO h (w:=[111,117,116,112,117,116]) (by decide) hp hc hn (by simp[ZlT]) (Zlp hC (hO k x hx)).2;unfold ZlT at q1;dsimp only;unfold XY;rw[if_pos (by omega),Zu,hx,Bq,hc,Bq,Zgm h hv hb hp.1 hp.2,Bq,q1,Bq,Zd (by unfold ZlT at q2;omega),Zar (by omega) (by omega)];rfl
 ·dsimp only
  unfold XY;rw[if_neg (by omega)];exact (Zrj h hv hb hs hS (by omega)).1
 ·obtain ⟨hp,⟨c,hc,hn⟩,_⟩:=ZmT hC (hO k x hx)
  obtain ⟨n1,n2⟩:=Zo6 (l:=ZlT x) (by simp[ZlT]) (Zlp hC (hO k x hx)).2;have hpl:=hp.len h;unfold ZlT at n1 n2;dsimp only;unfold Jr;rw[if_pos (by omega),Zu,hx,Bq,Zd (by simp only[List.length_append,List.length_cons,List.length_nil];omega),hc,Bq,(ZbZ h hp.1 hp.2).1,Bq,Zd (by simp only[List.length_append,List.length_cons,List.length_nil];omega),Zd (by simp only[List.length_append,List.length_cons,List.length_nil];omega),Zd (by simp only[List.length_append,List.length_cons,List.length_nil];omega),n1,Bq,Zd (by simp only[List.length_append,List.length_cons,List.length_nil];omega),Zd (by simp only[List.length_append,List.length_cons,List.length_nil];omega),Zar (by omega) (by omega)];have e:u'++[(111:UInt8),(117:UInt8),(116:UInt8),(112:UInt8),(117:UInt8),(116:UInt8),(32:UInt8)]++Jm b (Zh.Place x)++[(32:UInt8)]++Zc.Name c++Zfj [Yb.Early (Zh.Delay x),Yb.Late (Zh.Delay x)]++[(10:UInt8)]=u'++outT b (Zo.Yk s) x:=by
   unfold outT;rw[ZoQ hc];simp[ZlT,Zii,Go.Lib.join_cons,Go.Lib.joinTail]
  rw[e];rfl
 ·dsimp only
  unfold Jr;rw[if_neg (by omega)];exact (Zrj h hv hb hs hS (by omega)).2
theorem Zrw {b:Zj} (h:ZdN b) {v:Z0} (hv:Z0.Zw v=Zw (Zj.Design b)) (hb:Z0.Block v=b) {s:Zo} (hs:sm Vh s) (hS:Znb (Zw (Zj.Design b)) s) {u:List UInt8} (hu:u.length<=10000000000) :
  Zq (λu=>XZ v s u.1 u.2.1) (u,(0:Int),())=some (.inr (u++ZeU (inT b (Zo.Yk s)) (Zo.Zbb s)++ZeU (outT b (Zo.Yk s)) (Zo.Vp s)++ZeU (exT b) (Zo.Exceptions s)++ZeU ZoL (Zo.X5 s)))/\
  Zq (λu=>Js b s u.1 u.2.1) (u,(0:Int),())=some (.inr (u++ZeU (inT b (Zo.Yk s)) (Zo.Zbb s)++ZeU (outT b (Zo.Yk s)) (Zo.Vp s)++ZeU (exT b) (Zo.Exceptions s)++ZeU ZoL (Zo.X5 s))):=by
 obtain ⟨_,a2,_,_,_⟩:=Zl5 hs;have hsm:=Zv a2;obtain ⟨hC,_,hI,_⟩:=id hS;refine ⟨Zcr (inT b (Zo.Yk s)) 11000 _ (λx hx=>(ZnE h hC hI hx).2) (λk x u' hx hk hlen=>?_) (λhlen=>?_),Zcr (inT b (Zo.Yk s)) 11000 _ (λx hx=>(ZnE h hC hI hx).2) (λk x u' hx hk hlen=>?_) (λhlen=>?_)⟩
 ·obtain ⟨hp,⟨c,hc,hn⟩,_⟩:=ZmT hC (hI k x hx)
  obtain ⟨q1,q2⟩:=ZkO h (w:=[105,110,112,117,116]) (by decide) hp hc hn (by simp[Zrv]) (Zlp hC (hI k x hx)).1;unfold Zrv at q1;dsimp only;unfold XZ;rw[if_pos (by omega),Zu,hx,Bq,hc,Bq,Zgm h hv hb hp.1 hp.2,Bq,q1,Bq,Zd (by unfold Zrv at q2;omega),Zar (by omega) (by omega)];rfl
 ·dsimp only
  unfold XZ;rw[if_neg (by omega)];exact (ZpY h hv hb hs hS (by omega)).1
 ·obtain ⟨hp,⟨c,hc,hn⟩,_⟩:=ZmT hC (hI k x hx)
  obtain ⟨n1,n2⟩:=Zo6 (l:=Zrv x) (by simp[Zrv]) (Zlp hC (hI k x hx)).1;have hpl:=hp.len h;unfold Zrv at n1 n2;dsimp only;unfold Js;rw[if_pos (by omega),Zu,hx,Bq,Zd (by simp only[List.length_append,List.length_cons,List.length_nil];omega),hc,Bq,(ZbZ h hp.1 hp.2).1,Bq,Zd (by simp only[List.length_append,List.length_cons,List.length_nil];omega),Zd (by simp only[List.length_append,List.length_cons,List.length_nil];omega),Zd (by simp only[List.length_append,List.length_cons,List.length_nil];omega),n1,Bq,Zd (by simp only[List.length_append,List.length_cons,List.length_nil];omega),Zd (by simp only[List.length_append,List.length_cons,List.length_nil];omega),Zar (by omega) (by omega)];have e:u'++[(105:UInt8),(110:UInt8),(112:UInt8),(117:UInt8),(116:UInt8),(32:UInt8)]++Jm b (Zh.Place x)++[(32:UInt8)]++Zc.Name c++Zfj [Yb.Early (Zh.Delay x),Yb.Late (Zh.Delay x),Yb.Early (Zh.Za2 x),Yb.Late (Zh.Za2 x)]++[(10:UInt8)]=u'++inT b (Zo.Yk s) x:=by
   unfold inT;rw[ZoQ hc];simp[Zrv,Zii,Go.Lib.join_cons,Go.Lib.joinTail]
  rw[e];rfl
 ·dsimp only
  unfold Js;rw[if_neg (by omega)];exact (ZpY h hv hb hs hS (by omega)).2
noncomputable def Zx3 (b:Zj) (s:Zo):List UInt8:=ZeU (clT b (Zo.Yk s)) (Zo.Yk s)++ZeU (inT b (Zo.Yk s)) (Zo.Zbb s)++ZeU (outT b (Zo.Yk s)) (Zo.Vp s)++ZeU (exT b) (Zo.Exceptions s)++ZeU ZoL (Zo.X5 s)
theorem Zos {b:Zj} (h:ZdN b) {v:Z0} (hv:Z0.Zw v=Zw (Zj.Design b)) (hb:Z0.Block v=b) {s:Zo} (hs:sm Vh s) (hS:Znb (Zw (Zj.Design b)) s) :
  ZaL v s=some (Zx3 b s)/\Zgu b s=some (Zx3 b s):=by
 obtain ⟨hC,hP,_⟩:=id hS;have h6:=hC.1;have hcl:∀ c∈Zo.Yk s,(clT b (Zo.Yk s) c).length<=11000:=by
  intro c hc;obtain ⟨k,hk⟩:=List.mem_iff_getElem?.1 hc;have:=(Zf9 h hv hb hC hk (hP c hc)).2.2;unfold clT;simp only[List.length_append,List.length_cons,List.length_nil];omega
 refine ⟨Zcr (clT b (Zo.Yk s)) 11000 _ hcl (λk x u' hx hk hlen=>?_) (λhlen=>?_),Zcr (clT b (Zo.Yk s)) 11000 _ hcl (λk x u' hx hk hlen=>?_) (λhlen=>?_)⟩
 ·obtain ⟨q1,q2,q3⟩:=Zf9 h hv hb hC hx (hP x (List.mem_of_getElem? hx))
  simp only[List.length_nil] at hlen;dsimp only;unfold Vf;rw[if_pos (by omega),Zu,hx,Bq,q2,Bq,Zd (by rw[List.length_append,List.length_singleton];omega),Zar (by omega) (by omega)];rfl
 ·simp only[List.length_nil] at hlen
  dsimp only;unfold Vf;rw[if_neg (by omega)];exact (Zrw h hv hb hs hS (by omega)).1
 ·obtain ⟨q1,q2,q3⟩:=Zf9 h hv hb hC hx (hP x (List.mem_of_getElem? hx))
  simp only[List.length_nil] at hlen;dsimp only;unfold ZbL;rw[if_pos (by omega),Zu,hx,Bq,q1,Bq,Zd (by omega),Zd (by rw[List.length_append,List.length_singleton];omega),Zar (by omega) (by omega)];unfold clT;rw[List.append_assoc];rfl
 ·simp only[List.length_nil] at hlen
  dsimp only;unfold ZbL;rw[if_neg (by omega)];exact (Zrw h hv hb hs hS (by omega)).2
theorem Zn2 (b:Zj) (s:Zo) (hb:sm Xz b) (hs:sm Vh s):∃ t,Zcd b s=some t/\Zcq b s=some t:=by
 unfold Zcd Zcq;rw[Zlh b hb,Bq,Zl6 b s hb hs,Bq];by_cases hB:ZhJ b
 ·rw[if_pos (Yf hB)]
  have hBS:ZdN b:=⟨hB,hb⟩;obtain ⟨v,h1,h2,h3⟩:=Zo4 hBS;have hpl:=V9 hB.1.few;rw[h1,Bq,Zln v s hs (by rw[h2];omega),Bq,h2];by_cases hS:Znb (Zw (Zj.Design b)) s
  ·obtain ⟨q1,q2⟩:=Zos hBS h2 h3 hs hS
   rw[if_pos (Yf hS),if_pos (Yf ⟨hB,hS⟩),q1,q2];exact ⟨_,rfl,rfl⟩
  ·rw[if_neg (by rw[ZF hS];simp),if_neg (by rw[ZF (λq=>hS q.2)];simp)]
   exact ⟨_,rfl,rfl⟩
 ·rw[if_neg (by rw[ZF hB];simp),if_neg (by rw[ZF (λq=>hB q.1)];simp)]
  exact ⟨_,rfl,rfl⟩
theorem ZeD (a0:Zj) (a1:Zo) (b0:bnd Xz a0) (b1:bnd Vh a1):X9 a0 a1=some true:=by
 unfold X9;obtain ⟨n,e,hle,hP⟩:=Zlz a0 1048576 (by omega) (by omega) b0;rw[e,Bq];by_cases hn:n<0
 ·rw[if_pos hn]
 rw[if_neg hn];have hs:=hP (by omega);obtain ⟨n1,e1,hle1,hP1⟩:=ZlD a1 n (by omega) (by omega) b1;rw[e1,Bq];by_cases hn1:n1<0
 ·rw[if_pos hn1]
 rw[if_neg hn1];have hs1:=hP1 (by omega);obtain ⟨t,c1,c2⟩:=Zn2 a0 a1 hs hs1;simp only[ZlG _ hs,ZlK _ hs1,Bq,c1,c2,Zls _ hs,Zlw _ hs1,if_true]
end Go.Proofs.YtepbknolmhmipaaGreatDoor
