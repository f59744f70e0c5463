/-
  Plain laws: what a draw yields: the source, its numbers.
-/
import Derived.Test.YtgjjlgodlhhdoaaGreatDoorLA
import Derived.Test.YtgjjlgodlhhdoaaGreatDoorM
import Derived.Test.YtgjjlgodlhhdoaaGreatDoorSxBr
namespace Go.Proofs.YtgjjlgodlhhdoaaGreatDoor
set_option linter.unusedVariables false
set_option linter.unusedSimpArgs false
open Go Go.Sx
def Gets {α:Type} (o:Option α) (Q:α->Prop):Prop:=∃ a,o=some a/\Q a
theorem Gets.ret {α:Type} {a:α} {Q:α->Prop} (h:Q a):Gets (some a) Q:=⟨a,rfl,h⟩
theorem Gets.bind {α β:Type} {o:Option α} {P:α->Prop} {f:α->Option β} {Q:β->Prop} (h:Gets o P) (k:∀ a,P a->Gets (f a) Q):Gets (o.bind f) Q:=by
 obtain ⟨a,e,hp⟩:=h;rw[e];exact k a hp
theorem Gets.guard {α:Type} {p:Prop} {o:Option α} {Q:α->Prop} (h:p) (k:Gets o Q):Gets (Zw p o) Q:=by rw[Zn h];exact k
theorem Gets.ite {α:Type} {p:Prop} [Decidable p] {a b:Option α} {Q:α->Prop} (h1:p->Gets a Q) (h2:¬p->Gets b Q):Gets (if p then a else b) Q:=by
 split
 ·exact h1 (by assumption)
 ·exact h2 (by assumption)
theorem Gets.at {α β:Type} {l:List α} {i:Int} {f:α->Option β} {Q:β->Prop} (h0:0<=i) (h1:i<(l.length:Int)) (k:∀ x,x∈l->l[i.toNat]?=some x->Gets (f x) Q):Gets ((atI l i).bind f) Q:=by
 obtain ⟨x,e,hx⟩:=ZlH h0 h1;rw[e];exact k x (List.mem_of_getElem? hx) hx
theorem Gets.mono {α:Type} {o:Option α} {P Q:α->Prop} (h:Gets o P) (k:∀ a,P a->Q a):Gets o Q:=by
 obtain ⟨a,e,hp⟩:=h;exact ⟨a,e,k a hp⟩
theorem Gets.of {α:Type} {o:Option α} {a:α} {Q:α->Prop} (e:o=some a) (h:Q a):Gets o Q:=⟨a,e,h⟩
def Rnd {τ ρ:Type} (I:τ->Prop) (μ:τ->Nat) (m:Nat) (Q:ρ->Prop):τ ⊕ ρ->Prop
 | .inl v=>I v/\μ v<m
 | .inr r=>Q r
theorem Gets.loop {τ ρ:Type} {step:τ->Option (τ ⊕ ρ)} (I:τ->Prop) (μ:τ->Nat) {Q:ρ->Prop} {v:τ} (h0:I v) (hs:∀ v,I v->Gets (step v) (Rnd I μ (μ v) Q)):Gets (Zp step v) Q:=by
 refine Zee I μ Q h0 (λv hI=>?_);obtain ⟨r,e,h⟩:=hs v hI;cases r with
 | inl v'=>exact .inl ⟨v',e,h⟩
 | inr r=>exact .inr ⟨r,e,h⟩
structure Src (s:Zf):Prop where
 code:∀ x∈Zf.code s,0<=x/\x<=255
 len:(Zf.code s).length<=5000
 at0:0<=Zf.at s
 at1:Zf.at s<=5000
 sd0:0<=Zf.seed s
 sd1:Zf.seed s<2147483647
def Bel (n k:Int):Prop:=0<=k/\(k<n\/k=0)
theorem Zz {s:Zf} (hs:Src s) (n:Int):Gets (Zj s n) (λr=>Bel n r.1/\Src r.2):=by
 obtain ⟨hc,hl,a0,a1,s0,s1⟩:=hs;unfold Zj;split
 ·exact .ret ⟨⟨Int.le_refl _,.inr rfl⟩,⟨hc,hl,a0,a1,s0,s1⟩⟩
 rename_i hn;split
 ·rename_i hat
  refine .at a0 hat λx hx _=>?_;obtain ⟨b0,b1⟩:=hc x hx;have e1:Wq (Zf.at s+1)=Zf.at s+1:=YI (by omega) (by omega);have e2:Wq x=x:=YI (by omega) (by omega);have e3:Wq (Zf.seed s*48271)=Zf.seed s*48271:=YI (by omega) (by omega);have e4:Wq (Zf.seed s*48271+x)=Zf.seed s*48271+x:=YI (by omega) (by omega);have e5:Wq (Zf.seed s*48271+x+1)=Zf.seed s*48271+x+1:=YI (by omega) (by omega);simp only[e2,e3,e4,e5,e1];split
  ·refine .guard (by omega) (.ret ⟨⟨Int.tmod_nonneg _ b0,.inl (Int.tmod_lt_of_pos _ (by omega))⟩,⟨hc,hl,?_,?_,s0,s1⟩⟩)
   ·show 0<=Zf.at s+1;omega
   ·show Zf.at s+1<=5000;omega
  ·have m0:=Int.tmod_nonneg (a:=Zf.seed s*48271+x+1) 2147483647 (by omega)
   have m1:=Int.tmod_lt_of_pos (Zf.seed s*48271+x+1) (show (0:Int)<2147483647 by omega);refine .guard (by omega) (.ret ⟨⟨Int.tmod_nonneg _ m0,.inl (Int.tmod_lt_of_pos _ (by omega))⟩,⟨hc,hl,?_,?_,m0,m1⟩⟩)
   ·show 0<=Zf.at s+1;omega
   ·show Zf.at s+1<=5000;omega
 ·have e3:Wq (Zf.seed s*48271)=Zf.seed s*48271:=YI (by omega) (by omega)
  have e4:Wq (Zf.seed s*48271+11)=Zf.seed s*48271+11:=YI (by omega) (by omega);simp only[e3,e4];have m0:=Int.tmod_nonneg (a:=Zf.seed s*48271+11) 2147483647 (by omega);have m1:=Int.tmod_lt_of_pos (Zf.seed s*48271+11) (show (0:Int)<2147483647 by omega);generalize (Zf.seed s*48271+11).tmod 2147483647=q at m0 m1;have d0:q.tdiv 7=q / 7:=Int.tdiv_eq_ediv_of_nonneg m0;rw[d0,YI (n:=q / 7) (by omega) (by omega)];exact .guard (by omega) (.ret ⟨⟨Int.tmod_nonneg _ (by omega),.inl (Int.tmod_lt_of_pos _ (by omega))⟩,⟨hc,hl,a0,a1,m0,m1⟩⟩)
theorem ZDt {code:List Int} (hc:∀ x∈code,0<=x/\x<=255) (hl:code.length<=5000):Gets (ZeQ code) Src:=by
 unfold ZeQ;refine Gets.loop (λv=>0<=v.1/\v.1<=64/\0<=v.2.1/\v.2.1<2147483647) (λv=>(64-v.1).toNat) ⟨Int.le_refl _,by show (0:Int)<=64;omega,by show (0:Int)<=12345;omega,by show (12345:Int)<2147483647;omega⟩ ?_;rintro ⟨i,c,⟨⟩⟩ ⟨i0,i1,c0,c1⟩;simp only at i0 i1 c0 c1;have fin:Gets (some (.inr (code,(0:Int),c,()):(Int×Int×Unit) ⊕ Zf)) (Rnd (λv:Int×Int×Unit=>0<=v.1/\v.1<=64/\0<=v.2.1/\v.2.1<2147483647) (λv=>(64-v.1).toNat) ((λv:Int×Int×Unit=>(64-v.1).toNat) (i,c,())) Src) :=
  .ret (show Src (code,(0:Int),c,()) from ⟨hc,hl,Int.le_refl _,by show (0:Int)<=5000;omega,c0,c1⟩)
 show Gets (ZcB code i c) _;unfold ZcB;split
 ·rename_i hi
  split
  ·rename_i h64
   refine .at i0 hi λx hx _=>?_;obtain ⟨b0,b1⟩:=hc x hx;have e1:Wq (i+1)=i+1:=YI (by omega) (by omega);have e2:Wq x=x:=YI (by omega) (by omega);have e3:Wq (c*31)=c*31:=YI (by omega) (by omega);have e4:Wq (c*31+x)=c*31+x:=YI (by omega) (by omega);simp only[e1,e2,e3,e4];refine .ret ⟨⟨?_,?_,Int.tmod_nonneg _ (by omega),Int.tmod_lt_of_pos _ (by omega)⟩,?_⟩
   ·show 0<=i+1;omega
   ·show i+1<=64;omega
   ·show (64-(i+1)).toNat<(64-i).toNat;omega
  ·exact fin
 ·exact fin
theorem ZrY {code:List Int} (hc:∀ x∈code,0<=x/\x<=255) (hl:code.length<=4096):Gets (ZeQ code) Src:=ZDt hc (by omega)
theorem Zp0 {n:Int} (h0:0<=n) (h1:n<100):Gets (Zbm n) (λr=>r.length<=2):=by
 have one:∀ (k:Nat) (m:Int),0<=m->m<10->Qc (k+1) m=some (bytesOf [IntKind.wrap IntKind.u8 (Wq (48+m))]):=λk m a b=>by
  show YG (Qc k) m=_;unfold YG;rw[if_neg (by omega),if_pos b]
 have hb:∀ x:Int,(bytesOf [x]).length=1:=λx=>rfl;unfold Zbm;by_cases h:n<10
 ·refine .of (ZsA ⟨1,one 0 n h0 h⟩ (λk r hr=>?_)) (by rw[hb];omega)
  cases k with
  | zero=>cases hr
  | succ k=>rw[one k n h0 h] at hr;injection hr with hr;exact hr.symm
 ·have hd:n.tdiv 10=n / 10:=Int.tdiv_eq_ediv_of_nonneg h0
  have two:∀ k:Nat,Qc (k+2) n=some (bytesOf [IntKind.wrap IntKind.u8 (Wq (48+n / 10))]++bytesOf [IntKind.wrap IntKind.u8 (Wq (48+n.tmod 10))]):=λk=>by
   show YG (Qc (k+1)) n=_;unfold YG;rw[if_neg (by omega),if_neg h,hd,YI (n:=n / 10) (by omega) (by omega),one k (n / 10) (by omega) (by omega),Bq,Zn (by rw[hb,hb];omega)]
  refine .of (ZsA ⟨2,two 0⟩ (λk r hr=>?_)) (by rw[List.length_append,hb,hb];omega)
  match k,hr with
  | 0,hr=>cases hr
  | 1,hr =>
   exfalso;revert hr;show ¬YG (Qc 0) n=some r;unfold YG;rw[if_neg (by omega),if_neg h];intro hr;cases hr
  | k+2,hr=>rw[two k] at hr;injection hr with hr;exact hr.symm
theorem Zdg {α:Type} {P:α->Prop} {l:List α} {x:α} (h:∀ y∈l,P y) (hx:P x):∀ y∈l++[x],P y:=by
 intro y hy;rcases List.mem_append.1 hy with hy | hy
 ·exact h y hy
 ·rw[List.mem_singleton] at hy
  rw[hy];exact hx
theorem Zmg {α:Type} {P:α->Prop} {l:List α} {x:α} {i:Nat} (h:∀ y∈l,P y) (hx:P x):∀ y∈l.set i x,P y:=by
 intro y hy;rcases List.mem_or_eq_of_mem_set hy with hy | hy
 ·exact h y hy
 ·rw[hy];exact hx
theorem smI {l:List Int} (h:l.length<=1048576):sm (.sl (.int .i64)) l:=⟨by omega,λ_ _=>trivial⟩
theorem smS {s:List UInt8} (h:s.length<=1048576):sm .str s:=by show (s.length:Int)<=1048576;omega
theorem smL {t:Ty} {l:List t.den} (h:l.length<=1048576) (h2:∀ x∈l,sm t x):sm (.sl t) l:=⟨by omega,h2⟩
theorem Zni {s:Zf} (hs:Src s) (st:Int):Gets (JW s st) (λr=>(1<=r.1.length/\r.1.length<=3)/\Src r.2):=by
 unfold JW;refine (Zz hs st).bind λr0 ⟨_,h0⟩=>?_;refine (Zz h0 3).bind λr1 ⟨⟨a,b⟩,h1⟩=>?_;have e:Wq (1+r1.1)=1+r1.1:=YI (by omega) (by omega);rw[e];refine Gets.loop (λv=>0<=v.2.2.1/\(v.1.length:Int)+v.2.2.1=1+r1.1/\Src (v.2.2.2.1,v.2.2.2.2.1,v.2.2.2.2.2.1,())) (λv=>v.2.2.1.toNat) ⟨by dsimp only;omega,by dsimp only[List.length_nil];omega,h1⟩ ?_;rintro ⟨out,t,n,c0,c1,c2,⟨⟩⟩ ⟨i1,i2,i3⟩;dsimp only at i1 i2 i3;show Gets (J9 st out t n c0 c1 c2) _;unfold J9;have hw:Wq (n-1)=n-1:=YI (by omega) (by omega);rw[hw];split
 ·refine .guard (by simp only[List.length_cons,List.length_nil];omega) ?_
  refine (Zz i3 st).bind λr ⟨_,h2⟩=>?_;refine .ret ⟨⟨by dsimp only;omega,by dsimp only;simp only[List.length_append,List.length_cons,List.length_nil];omega,h2⟩,by dsimp only;omega⟩
 ·exact .ret ⟨⟨by dsimp only;omega,by dsimp only;omega⟩,i3⟩
theorem ZvU {a b:Nat} (ha:1<=a/\a<=3) (hb:1<=b/\b<=3):(b:Int)<=(a:Int)*(b:Int)/\(a:Int)*(b:Int)<=9:=by
 have:a=1\/a=2\/a=3:=by omega
 rcases this with rfl | rfl | rfl<;>omega
theorem Zl5 {s:Zf} (hs:Src s) (base:Int):Gets (ZdD s base) (λr=>sm JX r.1/\Src r.2):=by
 unfold ZdD;refine (Zni hs 60).bind λr0 ⟨ha,h0⟩=>?_;refine (Zni h0 40).bind λr1 ⟨hb,h1⟩=>?_;obtain ⟨p1,p2⟩:=ZvU ha hb;refine Gets.loop (λv=>0<=v.2.1/\v.2.1<=9/\(v.1.length:Int)=v.2.1/\Src (v.2.2.1,v.2.2.2.1,v.2.2.2.2.1,())) (λv=>(9-v.2.1).toNat) ⟨by dsimp only;omega,by dsimp only;omega,by dsimp only[List.length_nil];omega,h1⟩ ?_;rintro ⟨out,i,c0,c1,c2,⟨⟩⟩ ⟨i0,i1,i2,i3⟩;dsimp only at i0 i1 i2 i3;show Gets (ZcE base r0 r1 out i c0 c1 c2) _;unfold ZcE;have e0:Wq ((r0.1.length:Int)*(r1.1.length:Int))=(r0.1.length:Int)*(r1.1.length:Int):=YI (by omega) (by omega);have e1:Wq (i+1)=i+1:=YI (by omega) (by omega);have e2:Wq (i-1)=i-1:=YI (by omega) (by omega);have e3:Wq (i-(r1.1.length:Int))=i-(r1.1.length:Int):=YI (by omega) (by omega);rw[e0,e1,e2,e3];split
 ·rename_i hi
  have nx:∀ (x:Int) (t:Zf),Src t->Gets (Zw ((List.length out+List.length [x])*(8:Nat)<=(140737488355328:Nat)) (some (.inl (out++[x],i+1,t.fst,t.snd.fst,t.snd.snd.fst,()):(List Int×Int×List Int×Int×Int×Unit) ⊕ (Zx×Zf))))
    (Rnd (λv:List Int×Int×List Int×Int×Int×Unit=>0<=v.2.1/\v.2.1<=9/\(v.1.length:Int)=v.2.1/\Src (v.2.2.1,v.2.2.2.1,v.2.2.2.2.1,())) (λv=>(9-v.2.1).toNat) (9-i).toNat (λr=>sm JX r.1/\Src r.2)):=λx t ht =>
   .guard (by simp only[List.length_cons,List.length_nil];omega) (.ret ⟨⟨by dsimp only;omega,by dsimp only;omega,by dsimp only;simp only[List.length_append,List.length_cons,List.length_nil];omega,ht⟩,by dsimp only;omega⟩)
  refine (Zz i3 10).bind λr ⟨_,g0⟩=>?_;refine .guard (by omega) ?_;split
  ·rename_i hm
   have hne:i≠0:=by
    intro q;rw[q,Int.zero_tmod] at hm;omega
   refine .at (by omega) (by omega) λx0 _ _=>?_;refine (Zz g0 20).bind λr2 ⟨_,g1⟩=>?_;split
   ·refine .at (by omega) (by omega) λx1 _ _=>?_
    refine (Zz g1 20).bind λr3 ⟨_,g2⟩=>?_;exact nx _ _ g2
   ·exact nx _ _ g1
  ·split
   ·refine .at (by omega) (by omega) λx1 _ _=>?_
    refine (Zz g0 20).bind λr3 ⟨_,g2⟩=>?_;exact nx _ _ g2
   ·exact nx _ _ g0
 ·exact .ret ⟨⟨smI (by dsimp only;omega),smI (by dsimp only;omega),smI (by dsimp only;omega),trivial⟩,i3⟩
theorem Zht {s:Zf} (hs:Src s) (base:Int):Gets (Qy s base) (λr=>sm (.sl JX) r.1/\Src r.2):=by
 unfold Qy;refine (Zl5 hs base).bind λr0 ⟨a,h0⟩=>?_;refine (Zl5 h0 base).bind λr1 ⟨b,h1⟩=>?_;refine .ret ⟨smL (by dsimp only[List.length_cons,List.length_nil];omega) (λx hx=>?_),h1⟩;rcases List.mem_cons.1 hx with rfl | hx
 ·exact a
 ·rw[List.mem_singleton] at hx
  rw[hx];exact b
theorem Zhz {s:Zf} (hs:Src s) (k f t se:Int):Gets (Qt s k f t se) (λr=>sm Zk3 r.1/\Src r.2):=by
 unfold Qt;split
 ·refine (Zz hs 10).bind λr0 ⟨_,h0⟩=>?_
  refine (Zht h0 _).bind λr1 ⟨a,h1⟩=>?_;exact .ret ⟨⟨trivial,trivial,trivial,trivial,a,smL (by simp) (by simp),trivial⟩,h1⟩
 ·refine (Zz hs 20).bind λr0 ⟨_,h0⟩=>?_
  refine (Zht h0 _).bind λr1 ⟨a,h1⟩=>?_;refine (Zht h1 _).bind λr2 ⟨b,h2⟩=>?_;exact .ret ⟨⟨trivial,trivial,trivial,trivial,a,b,trivial⟩,h2⟩
theorem Zff {c:Zl} {pin b:Int} (hu:(0:Int)<=IntKind.wrap IntKind.u64 pin) (hbit:Wq ((1:Int)*(2:Int) ^ Min.min (Int.toNat (IntKind.wrap IntKind.u64 pin)) (IntKind.bits IntKind.i64))=b) (hL:(Zl.Truth c).length<=8) (b0:0<=b) (b1:b<=8)
  (hb:∀ i:Int,0<=i->i<((Zl.Truth c).length:Int)->Go.bits Go.BinOp.and IntKind.i64 i b=0->i+b<((Zl.Truth c).length:Int)):Gets (ZcJ c pin) (λ_=>True):=by
 unfold ZcJ;refine .guard hu ?_;refine Gets.loop (λv=>0<=v.2.2.1/\v.2.2.1<=8) (λv=>(8-v.2.2.1).toNat) ⟨by dsimp only;omega,by dsimp only;omega⟩ ?_;rintro ⟨ra,lo,i,⟨⟩⟩ ⟨i0,i1⟩;dsimp only at i0 i1;show Gets (ZbM c pin ra lo i) _;unfold ZbM;have e1:Wq (i+1)=i+1:=YI (by omega) (by omega);have e2:Wq (i+b)=i+b:=YI (by omega) (by omega);simp only[hbit,e1,e2];split
 ·rename_i hi
  have nx:∀ r l:Bool,Gets (some (.inl (r,l,i+1,()):(Bool×Bool×Int×Unit) ⊕ Int)) (Rnd (λv:Bool×Bool×Int×Unit=>0<=v.2.2.1/\v.2.2.1<=8) (λv=>(8-v.2.2.1).toNat) (8-i).toNat (λ_=>True)):=λr l =>
   .ret ⟨⟨by dsimp only;omega,by dsimp only;omega⟩,by dsimp only;omega⟩
  split
  ·rename_i hz
   have hlt:=hb i i0 hi hz;repeat' first
    | exact nx _ _
    | split
    | refine Gets.at (by omega) (by omega) λ_ _ _=>?_
  ·exact nx _ _
 ·repeat' first
   | exact Gets.ret (show Rnd _ _ _ (λ_=>True) (.inr _) from trivial)
   | split
theorem eight {i:Int} (h0:0<=i) (h1:i<8):i=0\/i=1\/i=2\/i=3\/i=4\/i=5\/i=6\/i=7:=by omega
theorem ZqZ {c:Zl} {pin:Int} (h:((Zl.Truth c).length=2/\pin=0)\/((Zl.Truth c).length=4/\(pin=0\/pin=1))\/((Zl.Truth c).length=8/\(pin=0\/pin=1\/pin=2))):Gets (ZcJ c pin) (λ_=>True):=by
 have k0:∀ L:Int,(L=2\/L=4\/L=8)->∀ i:Int,0<=i->i<L->Go.bits Go.BinOp.and IntKind.i64 i 1=0->i+1<L:=by
  intro L hL i h0 h1 hz;rcases eight h0 (by omega) with rfl | rfl | rfl | rfl | rfl | rfl | rfl | rfl<;>first | omega | exact absurd hz (by decide)
 have k1:∀ L:Int,(L=4\/L=8)->∀ i:Int,0<=i->i<L->Go.bits Go.BinOp.and IntKind.i64 i 2=0->i+2<L:=by
  intro L hL i h0 h1 hz;rcases eight h0 (by omega) with rfl | rfl | rfl | rfl | rfl | rfl | rfl | rfl<;>first | omega | exact absurd hz (by decide)
 have k2:∀ L:Int,L=8->∀ i:Int,0<=i->i<L->Go.bits Go.BinOp.and IntKind.i64 i 4=0->i+4<L:=by
  intro L hL i h0 h1 hz;rcases eight h0 (by omega) with rfl | rfl | rfl | rfl | rfl | rfl | rfl | rfl<;>first | omega | exact absurd hz (by decide)
 rcases h with ⟨hl,rfl⟩ | ⟨hl,rfl | rfl⟩ | ⟨hl,rfl | rfl | rfl⟩
 ·exact Zff (b:=1) (by decide) (by decide) (by omega) (by omega) (by omega) (k0 _ (by omega))
 ·exact Zff (b:=1) (by decide) (by decide) (by omega) (by omega) (by omega) (k0 _ (by omega))
 ·exact Zff (b:=2) (by decide) (by decide) (by omega) (by omega) (by omega) (k1 _ (by omega))
 ·exact Zff (b:=1) (by decide) (by decide) (by omega) (by omega) (by omega) (k0 _ (by omega))
 ·exact Zff (b:=2) (by decide) (by decide) (by omega) (by omega) (by omega) (k1 _ (by omega))
 ·exact Zff (b:=4) (by decide) (by decide) (by omega) (by omega) (by omega) (k2 _ (by omega))
theorem Zgk {s:Zf} (hs:Src s) {nm:List UInt8} (hn:nm.length<=5) {tr:List Int} (ht:tr.length=2\/tr.length=4\/tr.length=8):Gets (Jt s nm tr) (λr=>sm Zeu r.1/\Src r.2):=by
 unfold Jt;refine (Zz hs 50).bind λr0 ⟨_,h0⟩=>?_;refine (Zz h0 80).bind λr1 ⟨_,h1⟩=>?_;refine Gets.loop (λv=>((v.1.length=0/\v.2.1=1)\/(v.1.length=1/\v.2.1=2)\/(v.1.length=2/\v.2.1=4)\/(v.1.length=3/\v.2.1=8))/\v.2.1<=(tr.length:Int)/\(∀ x∈v.1,sm Zm4 x)/\Src (v.2.2.1,v.2.2.2.1,v.2.2.2.2.1,())) (λv=>(8-v.2.1).toNat)
  ⟨.inl ⟨rfl,rfl⟩,by dsimp only;omega,λx hx=>(by cases hx),h1⟩ ?_
 rintro ⟨pins,n,c0,c1,c2,⟨⟩⟩ ⟨i1,i2,i3,i4⟩;dsimp only at i1 i2 i3 i4;show Gets (ZcG nm tr r0 r1 pins n c0 c1 c2) _;unfold ZcG;split
 ·rename_i hlt
  refine .at (by omega) (by simp only[List.length_cons,List.length_nil];omega) λx hx _=>?_;have hx1:x.length<=1:=by
   simp only[List.mem_cons,List.not_mem_nil,or_false] at hx;rcases hx with rfl | rfl | rfl | rfl<;>exact Nat.le_refl _
  refine (Zz i4 9).bind λr ⟨_,h2⟩=>?_;have e1:Wq (2*n)=2*n:=YI (by omega) (by omega);rw[e1];refine .guard (by simp only[List.length_cons,List.length_nil];omega) (.ret ⟨⟨?_,by dsimp only;omega,Zdg i3 ⟨smS (by (try dsimp only);omega),trivial,trivial,trivial,trivial⟩,h2⟩,by dsimp only;omega⟩);dsimp only;simp only[List.length_append,List.length_cons,List.length_nil];omega
 ·refine .guard (by simp only[List.length_cons,List.length_nil];omega) ?_
  refine Gets.loop (λv=>0<=v.2.1/\v.2.1<=3/\(v.1.length:Int)<=v.2.1/\(∀ x∈v.1,sm Zk3 x)/\Src (v.2.2.1,v.2.2.2.1,v.2.2.2.2.1,())) (λv=>(3-v.2.1).toNat) ⟨by dsimp only;omega,by dsimp only;omega,by dsimp only[List.length_nil];omega,λx hx=>(by cases hx),i4⟩ ?_;rintro ⟨arcs,p,d0,d1,d2,⟨⟩⟩ ⟨j0,j1,j2,j3,j4⟩;dsimp only at j0 j1 j2 j3 j4;show Gets (ZcF nm tr r0 r1 pins arcs p d0 d1 d2) _;unfold ZcF;have e1:Wq (p+1)=p+1:=YI (by omega) (by omega);rw[e1];split
  ·rename_i hp
   refine (ZqZ (by
    show (tr.length=2/\p=0)\/(tr.length=4/\(p=0\/p=1))\/(tr.length=8/\(p=0\/p=1\/p=2));omega)).bind λse _=>?_
   split
   ·exact .ret ⟨⟨by dsimp only;omega,by dsimp only;omega,by dsimp only;omega,j3,j4⟩,by dsimp only;omega⟩
   ·refine (Zhz j4 1 p _ se).bind λr ⟨ha,h2⟩=>?_
    refine .guard (by simp only[List.length_cons,List.length_nil];omega) (.ret ⟨⟨by dsimp only;omega,by dsimp only;omega,?_,Zdg j3 ha,h2⟩,by dsimp only;omega⟩);dsimp only;simp only[List.length_append,List.length_cons,List.length_nil];omega
  ·refine .ret ⟨⟨smS (by (try dsimp only);omega),trivial,smL ?_ (Zdg i3 ⟨smS (by dsimp only[List.length_cons,List.length_nil];omega),trivial,trivial,trivial,trivial⟩),smL (by (try dsimp only);omega) j3,smI (by (try dsimp only);omega),trivial,trivial,trivial⟩,j4⟩
   (try dsimp only)
   simp only[List.length_append,List.length_cons,List.length_nil];omega
theorem Zkb {s:Zf} (hs:Src s) {nm:List UInt8} (hn:nm.length<=5) (k e:Int):Gets (Vp s nm k e) (λr=>sm Zeu r.1/\Src r.2):=by
 have hp:∀ a b:Int,sm (.sl Zm4) [([(100:UInt8)],(1:Int),a,Bool.false,()),([(99:UInt8),(107:UInt8)],(1:Int),b,Bool.true,()),([(113:UInt8)],(2:Int),(0:Int),Bool.false,())]:=λa b=>by
  refine smL (by (try dsimp only);simp only[List.length_cons,List.length_nil];omega) (λx hx=>?_);simp only[List.mem_cons,List.not_mem_nil,or_false] at hx;rcases hx with rfl | rfl | rfl<;>exact ⟨smS (by simp only[List.length_cons,List.length_nil];omega),trivial,trivial,trivial,trivial⟩
 unfold Vp;refine (Zz hs 50).bind λr0 ⟨_,h0⟩=>?_;refine (Zz h0 80).bind λr1 ⟨_,h1⟩=>?_;refine (Zz h1 9).bind λr2 ⟨_,h2⟩=>?_;refine (Zz h2 9).bind λr3 ⟨_,h3⟩=>?_;refine (Zhz h3 e 1 2 0).bind λa0 ⟨g0,h4⟩=>?_;refine (Zhz h4 4 1 0 0).bind λa1 ⟨g1,h5⟩=>?_;refine (Zhz h5 5 1 0 0).bind λa2 ⟨g2,h6⟩=>?_;have h3a:∀ x∈[a0.1,a1.1,a2.1],sm Zk3 x:=λx hx=>by
  simp only[List.mem_cons,List.not_mem_nil,or_false] at hx;rcases hx with rfl | rfl | rfl
  ·exact g0
  ·exact g1
  ·exact g2
 split
 ·refine (Zhz h6 1 0 2 1).bind λa3 ⟨g3,h7⟩=>?_
  refine .guard (by simp only[List.length_cons,List.length_nil];omega) (.ret ⟨⟨smS (by (try dsimp only);omega),trivial,hp _ _,smL (by (try dsimp only);simp only[List.length_append,List.length_cons,List.length_nil];omega) (Zdg h3a g3),smI (by simp),trivial,trivial,trivial⟩,h7⟩)
 ·exact .ret ⟨⟨smS (by (try dsimp only);omega),trivial,hp _ _,smL (by (try dsimp only);simp only[List.length_cons,List.length_nil];omega) h3a,smI (by simp),trivial,trivial,trivial⟩,h6⟩
theorem ZtR {s:Zf} (hs:Src s):Gets (ZeR s) (λr=>(sm Qp r.1/\(Zy.Cells r.1).length=8)/\Src r.2):=by
 unfold ZeR;refine (Zgk hs (by simp only[List.length_cons,List.length_nil];omega) (by simp)).bind λr0 ⟨g0,h0⟩=>?_;refine (Zgk h0 (by simp only[List.length_cons,List.length_nil];omega) (by simp)).bind λr1 ⟨g1,h1⟩=>?_;refine (Zgk h1 (by simp only[List.length_cons,List.length_nil];omega) (by simp)).bind λr2 ⟨g2,h2⟩=>?_;refine (Zgk h2 (by simp only[List.length_cons,List.length_nil];omega) (by simp)).bind λr3 ⟨g3,h3⟩=>?_;refine (Zgk h3 (by simp only[List.length_cons,List.length_nil];omega) (by simp)).bind λr4 ⟨g4,h4⟩=>?_;refine (Zkb h4 (by simp only[List.length_cons,List.length_nil];omega) 2 2).bind λr5 ⟨g5,h5⟩=>?_;refine (Zkb h5 (by simp only[List.length_cons,List.length_nil];omega) 2 3).bind λr6 ⟨g6,h6⟩=>?_;refine (Zkb h6 (by simp only[List.length_cons,List.length_nil];omega) 3 2).bind λr7 ⟨g7,h7⟩=>?_;refine .ret ⟨⟨⟨smL (by (try dsimp only);simp only[List.length_cons,List.length_nil];omega) (λx hx=>?_),trivial⟩,rfl⟩,h7⟩;simp only[List.mem_cons,List.not_mem_nil,or_false] at hx;rcases hx with rfl | rfl | rfl | rfl | rfl | rfl | rfl | rfl<;>assumption
def Zrg (x:Zi):Prop:=(∃ r,Zi.Name x=117::r/\r.length<=2)/\(2<=(Zi.YQ x).length/\(Zi.YQ x).length<=4)
def Zx6 (s:List UInt8):Prop:=∃ r,s=110::r/\r.length<=2
def Zri (p:Yr):Prop:=(Yr.Name p).length<=2
structure Ztl (d:Zd):Prop where
 n0:2<=(Zd.Instances d).length
 n1:(Zd.Instances d).length<=9
 inst:∀ x∈Zd.Instances d,Zrg x
 nl:(Zd.YQ d).length=(Zd.Instances d).length+3
 net:∀ s∈Zd.YQ d,Zx6 s
 p0:4<=(Zd.YR d).length
 p1:(Zd.YR d).length<=5
 port:∀ p∈Zd.YR d,Zri p
theorem Zot {s:Zf} (hs:Src s) {most:Int} (hm1:1<=most) (hm2:most<=8) (wild:Bool):Gets (ZeT s most wild) (λr=>Ztl r.1/\Src r.2):=by
 unfold ZeT;have em:Wq (most-1)=most-1:=YI (by omega) (by omega);rw[em];refine (Zz hs _).bind λr0 ⟨⟨a0,a1⟩,h0⟩=>?_;have e:Wq (2+r0.1)=2+r0.1:=YI (by omega) (by omega);rw[e];have hN:2<=2+r0.1/\2+r0.1<=9:=by omega
 generalize 2+r0.1=N at hN;refine Gets.loop (λv=>0<=v.2.2.1/\(v.1.length:Int)+v.2.2.1=N/\v.2.1.length=v.1.length+3/\(∀ x∈v.1,Zrg x)/\(∀ x∈v.2.1,Zx6 x)/\Src (v.2.2.2.1,v.2.2.2.2.1,v.2.2.2.2.2.1,())) (λv=>v.2.2.1.toNat)
  ⟨by dsimp only;omega,by dsimp only[List.length_nil];omega,rfl,λx hx=>(by cases hx),λx hx=>?_,h0⟩ ?_
 ·simp only[List.nil_append,List.mem_cons,List.not_mem_nil,or_false] at hx
  rcases hx with rfl | rfl | rfl
  ·exact ⟨_,rfl,Nat.le_refl _⟩
  ·exact ⟨_,rfl,by simp⟩
  ·exact ⟨_,rfl,by simp⟩
 rintro ⟨ins,nets,n,c0,c1,c2,⟨⟩⟩ ⟨i1,i2,i3,i4,i5,i6⟩;dsimp only at i1 i2 i3 i4 i5 i6;show Gets (ZcM wild ins nets n c0 c1 c2) _;unfold ZcM;split
 ·rename_i hn
  refine (Zz i6 12).bind λr ⟨⟨b0,b1⟩,h1⟩=>?_;refine .at b0 (by simp only[List.length_cons,List.length_nil];omega) λx hx _=>?_;have hx7:0<=x/\x<=7:=by
   simp only[List.mem_cons,List.not_mem_nil,or_false] at hx;omega
  refine (Zp0 (n:=(ins.length:Int)) (by omega) (by omega)).bind λnm hnm=>?_;refine .guard (by simp only[List.length_cons,List.length_nil];omega) ?_;refine Gets.loop (λv=>0<=v.1/\v.1<=3/\(v.2.2.2.2.1.length:Int)=v.1/\Src (v.2.1,v.2.2.1,v.2.2.2.1,())) (λv=>(3-v.1).toNat) ⟨by dsimp only;omega,by dsimp only;omega,rfl,h1⟩ ?_;rintro ⟨p,d0,d1,d2,l,⟨⟩⟩ ⟨j0,j1,j2,j3⟩;dsimp only at j0 j1 j2 j3;show Gets (ZcK ins nets n x nm p d0 d1 d2 l) _;unfold ZcK;refine .at hx7.1 (by simp only[List.length_cons,List.length_nil];omega) λk hk _=>?_;have hk4:2<=k/\k<=4:=by
   simp only[List.mem_cons,List.not_mem_nil,or_false] at hk;omega
  have ek:Wq (k-1)=k-1:=YI (by omega) (by omega);have ep:Wq (p+1)=p+1:=YI (by omega) (by omega);have en:Wq (n-1)=n-1:=YI (by omega) (by omega);simp only[ek,ep,en];split
  ·rename_i hpk
   refine (Zz j3 _).bind λr2 ⟨_,h2⟩=>?_;refine (Zz h2 3).bind λr3 ⟨_,h3⟩=>?_;repeat' first
    | split
    | refine Gets.guard (by simp only[List.length_append,List.length_cons,List.length_nil];omega) ?_
    | exact .ret ⟨⟨by dsimp only;omega,by dsimp only;omega,by dsimp only;simp only[List.length_append,List.length_cons,List.length_nil];omega,h3⟩,by dsimp only;omega⟩
  ·refine .guard (by simp only[List.length_append,List.length_cons,List.length_nil];omega) ?_
   refine .guard (by simp only[List.length_append,List.length_cons,List.length_nil];omega) ?_;refine (Zp0 (n:=(nets.length:Int)) (by omega) (by omega)).bind λnn hnn=>?_;refine .guard (by simp only[List.length_append,List.length_cons,List.length_nil];omega) ?_;refine .guard (by simp only[List.length_append,List.length_cons,List.length_nil];omega) ?_;refine .guard (by simp only[List.length_append,List.length_cons,List.length_nil];omega) ?_;refine .ret ⟨⟨by dsimp only;omega,by dsimp only;simp only[List.length_append,List.length_cons,List.length_nil];omega,by dsimp only;simp only[List.length_append,List.length_cons,List.length_nil];omega,Zdg i4 ⟨⟨nm,rfl,hnm⟩,?_⟩,Zdg i5 ⟨nn,rfl,hnn⟩,j3⟩,by dsimp only;omega⟩;show 2<=List.length ([]++l++[_])/\List.length ([]++l++[_])<=4;simp only[List.length_append,List.length_cons,List.length_nil];omega
 ·rename_i hn
  refine Gets.loop (λv=>0<=v.1/\v.1<=9/\v.2.2.2.2.1.length=ins.length/\(∀ x∈v.2.2.2.2.1,Zrg x)/\Src (v.2.1,v.2.2.1,v.2.2.2.1,())) (λv=>(9-v.1).toNat) ⟨by dsimp only;omega,by dsimp only;omega,rfl,i4,i6⟩ ?_;rintro ⟨p,d0,d1,d2,l,⟨⟩⟩ ⟨j0,j1,j2,j3,j4⟩;dsimp only at j0 j1 j2 j3 j4;show Gets (ZcL wild nets p d0 d1 d2 l) _;unfold ZcL;have ep:Wq (p+1)=p+1:=YI (by omega) (by omega);simp only[ep];split
  ·rename_i hp
   refine (Zz j4 4).bind λr ⟨_,h1⟩=>?_;split
   ·refine .at j0 hp λx hx hxi=>?_
    have hxd:=j3 x hx;have st:∀ v:Int,Gets ((Zj r.2 v).bind λl01Next2=>(atI x.snd.snd.fst (0:Int)).bind λx1=>some (.inl (p+1,l01Next2.snd.fst,l01Next2.snd.snd.fst,l01Next2.snd.snd.snd.fst,List.set l (Int.toNat p) (x.fst,x.snd.fst,List.set x.snd.snd.fst (Int.toNat (0:Int)) (Wq ((1:Int)+l01Next2.fst)),()),()):(Int×(List Int)×Int×Int×(List (List UInt8×Int×List Int×Unit))×Unit) ⊕ (((List Zi)×(List (List UInt8))×Int×(List Int)×Int×Int×Unit) ⊕ (Zd×Zf))))
      (Rnd (λv:Int×(List Int)×Int×Int×(List (List UInt8×Int×List Int×Unit))×Unit=>0<=v.1/\v.1<=9/\v.2.2.2.2.1.length=ins.length/\(∀ x∈v.2.2.2.2.1,Zrg x)/\Src (v.2.1,v.2.2.1,v.2.2.2.1,())) (λv=>(9-v.1).toNat) (9-p).toNat
       (Rnd (λv:(List Zi)×(List (List UInt8))×Int×(List Int)×Int×Int×Unit=>0<=v.2.2.1/\(v.1.length:Int)+v.2.2.1=N/\v.2.1.length=v.1.length+3/\(∀ x∈v.1,Zrg x)/\(∀ x∈v.2.1,Zx6 x)/\Src (v.2.2.2.1,v.2.2.2.2.1,v.2.2.2.2.2.1,())) (λv=>v.2.2.1.toNat) n.toNat (λr=>Ztl r.1/\Src r.2))):=λv=>by
     refine (Zz h1 v).bind λr2 ⟨_,h2⟩=>?_;refine .at (by omega) (by have:=hxd.2.1;show (0:Int)<((Zi.YQ x).length:Int);omega) λ_ _ _=>?_;refine .ret ⟨⟨by dsimp only;omega,by dsimp only;omega,by dsimp only;rw[List.length_set];exact j2,Zmg j3 ⟨hxd.1,?_⟩,h2⟩,by dsimp only;omega⟩;show 2<=(List.set (Zi.YQ x) _ _).length/\(List.set (Zi.YQ x) _ _).length<=4;rw[List.length_set];exact hxd.2
    repeat' first
     | exact st _
     | split
     | exact .ret ⟨⟨by dsimp only;omega,by dsimp only;omega,by dsimp only;rw[List.length_set];exact j2,Zmg j3 hxd,h1⟩,by dsimp only;omega⟩
   ·exact .ret ⟨⟨by dsimp only;omega,by dsimp only;omega,j2,j3,h1⟩,by dsimp only;omega⟩
  ·refine .guard (by simp only[List.length_append,List.length_cons,List.length_nil];omega) ?_
   refine (Zz j4 2).bind λr ⟨_,h1⟩=>?_;have four:∀ a:Int,∀ p∈(([]:List (List UInt8×Int×Int×Unit))++[([(99:UInt8),(107:UInt8)],(1:Int),(0:Int),()),([(97:UInt8)],(1:Int),(1:Int),()),([(98:UInt8)],(1:Int),(2:Int),())]++[([(121:UInt8)],(2:Int),a,())]),Zri p:=λa p hp=>by
    simp only[List.nil_append,List.cons_append,List.mem_cons,List.not_mem_nil,or_false] at hp;unfold Zri;rcases hp with rfl | rfl | rfl | rfl
    ·exact Nat.le_refl 2
    ·show 1<=2;omega
    ·show 1<=2;omega
    ·show 1<=2;omega
   split
   ·refine (Zz h1 _).bind λr2 ⟨_,h2⟩=>?_
    refine .guard (by simp only[List.length_append,List.length_cons,List.length_nil];omega) ?_;refine .ret ⟨⟨?_,?_,j3,?_,i5,?_,?_,Zdg (four _) (show 1<=2 by omega)⟩,h2⟩
    ·show 2<=l.length;omega
    ·show l.length<=9;omega
    ·show nets.length=l.length+3;omega
    ·show 4<=List.length (_++_++_++_);simp only[List.length_append,List.length_cons,List.length_nil];omega
    ·show List.length (_++_++_++_)<=5;simp only[List.length_append,List.length_cons,List.length_nil];omega
   ·refine .ret ⟨⟨?_,?_,j3,?_,i5,?_,?_,four _⟩,h1⟩
    ·show 2<=l.length;omega
    ·show l.length<=9;omega
    ·show nets.length=l.length+3;omega
    ·show 4<=List.length (_++_++_);simp only[List.length_append,List.length_cons,List.length_nil];omega
    ·show List.length (_++_++_)<=5;simp only[List.length_append,List.length_cons,List.length_nil];omega
theorem Ztl.few {d:Zd} (h:Ztl d):Few d:=⟨by have:=h.n1;omega,by have:=h.p1;omega,λx hx=>by have:=(h.inst x hx).2.2;omega⟩
theorem Ztl.sm {d:Zd} (h:Ztl d):sm Xq d:=by
 have:=h.n1;have:=h.p1;have:=h.nl;refine ⟨smL (by show (Zd.Instances d).length<=_;omega) (λx hx=>?_),smL (by show (Zd.YQ d).length<=_;omega) (λx hx=>?_),smL (by show (Zd.YR d).length<=_;omega) (λx hx=>?_),trivial⟩
 ·obtain ⟨⟨r,e,hr⟩,h2⟩:=h.inst x hx
  refine ⟨smS ?_,trivial,smI ?_,trivial⟩
  ·show (Zi.Name x).length<=_
   rw[e,List.length_cons];omega
  ·show (Zi.YQ x).length<=_
   omega
 ·obtain ⟨r,e,hr⟩:=h.net x hx
  refine smS ?_;rw[e,List.length_cons];omega
 ·have:=h.port x hx
  unfold Zri at this;exact ⟨smS (by show (Yr.Name x).length<=_;omega),trivial,trivial,trivial⟩
def Zrk (w:Zq):Prop:=(1<=(Zq.Parent w).length/\(Zq.Parent w).length<=4)/\(Zq.Res w).length=(Zq.Parent w).length/\(Zq.Cap w).length=(Zq.Parent w).length/\(Zq.Zc0 w).length<=100
theorem Zrk.sm {w:Zq} (h:Zrk w):sm ZfS w:=by
 obtain ⟨h1,h2,h3,h4⟩:=h;exact ⟨smI (by show (Zq.Parent w).length<=_;omega),smI (by show (Zq.Res w).length<=_;omega),smI (by show (Zq.Cap w).length<=_;omega),smI (by show (Zq.Zc0 w).length<=_;omega),trivial⟩
theorem ZmB (l:List Int) (h:l.length<=1048576):VI l=some l:=by
 have h2:((([]:List Int).length+l.length)*8<=140737488355328):=by simp only[List.length_nil];omega
 unfold VI;first
  | (rw[Zn h2,List.nil_append])
  | (rw[Zn h2];rfl)
  | rfl
theorem Zta {s:Zf} (hs:Src s) {k:Int} (h0:0<=k) (h1:k<=100):Gets (ZbA s k) (λr=>Zrk r.1/\Src r.2):=by
 unfold ZbA;refine (Zz hs 6).bind λr0 ⟨_,g0⟩=>?_;have hl:Zds k r0.1=some ([(-1:Int)],[(0:Int)],[r0.1],List.replicate (Int.toNat k) (0:Int),()):=by
  unfold Zds;rw[Zn (by omega),Zn (by omega),Zn (by omega),Zn (by omega)]
 rw[hl,Bq];refine (Zz g0 4).bind λr1 ⟨⟨a,b⟩,g1⟩=>?_;refine Gets.loop (λv=>0<=v.1/\(v.2.2.2.2.1.length:Int)+v.1=1+r1.1/\1<=v.2.2.2.2.1.length/\v.2.2.2.2.2.1.length=v.2.2.2.2.1.length/\v.2.2.2.2.2.2.1.length=v.2.2.2.2.1.length/\v.2.2.2.2.2.2.2.1.length<=100/\Src (v.2.1,v.2.2.1,v.2.2.2.1,())) (λv=>v.1.toNat)
  ⟨a,by show ((1:Nat):Int)+r1.1=1+r1.1;omega,Nat.le_refl _,rfl,rfl,by show (List.replicate (Int.toNat k) (0:Int)).length<=100;rw[List.length_replicate];omega,g1⟩ ?_
 rintro ⟨n,c0,c1,c2,l1,l2,l3,l4,⟨⟩⟩ ⟨i0,i1,i2,i3,i4,i5,i6⟩;dsimp only at i0 i1 i2 i3 i4 i5 i6;show Gets (Zab n c0 c1 c2 l1 l2 l3 l4) _;unfold Zab;have en:Wq (n-1)=n-1:=YI (by omega) (by omega);simp only[en];split
 ·rw[ZmB l1 (by omega),Bq,ZmB l2 (by omega),ZmB l3 (by omega)]
  refine (Zz i6 _).bind λr2 ⟨_,h2⟩=>?_;refine .guard (by simp only[List.length_append,List.length_cons,List.length_nil];omega) ?_;rw[Bq];refine (Zz h2 _).bind λr3 ⟨_,h3⟩=>?_;refine .guard (by simp only[List.length_append,List.length_cons,List.length_nil];omega) ?_;rw[Bq];refine (Zz h3 _).bind λr4 ⟨_,h4⟩=>?_;refine .guard (by simp only[List.length_append,List.length_cons,List.length_nil];omega) ?_;refine .ret ⟨⟨by dsimp only;omega,?_,?_,?_,?_,i5,h4⟩,by dsimp only;omega⟩;all_goals
   dsimp only;simp only[List.length_append,List.length_cons,List.length_nil];omega
 ·refine Gets.loop (λv=>0<=v.1/\v.1<=100/\v.2.2.2.2.1.length=l4.length/\Src (v.2.1,v.2.2.1,v.2.2.2.1,())) (λv=>(100-v.1).toNat) ⟨by dsimp only;omega,by dsimp only;omega,rfl,i6⟩ ?_
  rintro ⟨p,d0,d1,d2,l,⟨⟩⟩ ⟨j0,j1,j2,j3⟩;dsimp only at j0 j1 j2 j3;show Gets (Zaa l1 l2 l3 p d0 d1 d2 l) _;unfold Zaa;have ep:Wq (p+1)=p+1:=YI (by omega) (by omega);simp only[ep];split
  ·rename_i hp
   refine (Zz j3 _).bind λr2 ⟨_,h2⟩=>?_;refine .at j0 hp λ_ _ _=>?_;exact .ret ⟨⟨by dsimp only;omega,by dsimp only;omega,by dsimp only;rw[List.length_set];exact j2,h2⟩,by dsimp only;omega⟩
  ·refine .ret ⟨⟨⟨?_,?_⟩,i3,i4,?_⟩,j3⟩
   ·exact i2
   ·show l1.length<=4;omega
   ·show l.length<=100;omega
structure Zwv (b:Zc):Prop where
 lib:sm Qp (Zc.Library b)
 des:Ztl (Zc.Design b)
 wl:(Zc.Yw b).length=(Zd.YQ (Zc.Design b)).length
 wires:∀ w∈Zc.Yw b,Zrk w
theorem Zwv.sm {b:Zc} (h:Zwv b):sm YC b:=by
 have:=h.wl;have:=h.des.nl;have:=h.des.n1;exact ⟨h.lib,h.des.sm,smL (by show (Zc.Yw b).length<=_;omega) (λw hw=>(h.wires w hw).sm),trivial⟩
theorem Zif {s:Zf} (hs:Src s) {most:Int} (hm1:1<=most) (hm2:most<=8) (wild:Bool):Gets (QT s most wild) (λr=>Zwv r.1/\Src r.2):=by
 unfold QT;refine (ZtR hs).bind λr0 ⟨hl,h0⟩=>?_;refine (Zot h0 hm1 hm2 wild).bind λr1 ⟨hd,h1⟩=>?_;have hnl:=hd.nl;have hn1:=hd.n1;refine Gets.loop (λv=>0<=v.2.1/\v.2.1<=((Zd.YQ r1.1).length:Int)/\(v.1.length:Int)=v.2.1/\(∀ w∈v.1,Zrk w)/\Src (v.2.2.1,v.2.2.2.1,v.2.2.2.2.1,())) (λv=>(100-v.2.1).toNat)
  ⟨by dsimp only;omega,by dsimp only;omega,rfl,λw hw=>(by cases hw),h1⟩ ?_
 rintro ⟨ws,n,c0,c1,c2,⟨⟩⟩ ⟨i0,i1,i2,i3,i4⟩;dsimp only at i0 i1 i2 i3 i4;show Gets (ZcP r0 r1 ws n c0 c1 c2) _;unfold ZcP;have en:Wq (n+1)=n+1:=YI (by omega) (by omega);simp only[en];split
 ·rename_i hn
  have hn:n<((Zd.YQ r1.1).length:Int):=hn;rw[Zbz r1.1 n hd.few,Bq];have hsl:(sinks r1.1 n).length<=78:=Nat.le_trans (Zcx n (places r1.1) 0) (YK hd.few);refine (Zta i4 (k:=((sinks r1.1 n).length:Int)) (by omega) (by omega)).bind λr ⟨hw,h2⟩=>?_;refine .guard (by simp only[List.length_append,List.length_cons,List.length_nil];omega) (.ret ⟨⟨by dsimp only;omega,by dsimp only;omega,?_,Zdg i3 hw,h2⟩,by dsimp only;omega⟩);dsimp only;simp only[List.length_append,List.length_cons,List.length_nil];omega
 ·rename_i hn
  have hn:¬n<((Zd.YQ r1.1).length:Int):=hn;refine .ret ⟨⟨hl.1,hd,?_,i3⟩,i4⟩;show ws.length=(Zd.YQ r1.1).length;omega
def ZsK (x:Zi) (j:Nat) (n:Int):Zi:=(Zi.Name x,Zi.Cell x,List.set (Zi.YQ x) j n,())
def setPort (q:Yr) (n:Int):Yr:=(Yr.Name q,Yr.Dir q,n,())
def conn (d:Zd) (a b:Int) (n:Int):Zd :=
 if a<0 then (Zd.Instances d,Zd.YQ d,match (Zd.YR d)[b.toNat]? with
  | some q=>(Zd.YR d).set b.toNat (setPort q n)
  | none=>Zd.YR d,())
 else (match (Zd.Instances d)[a.toNat]? with
  | some x=>(Zd.Instances d).set a.toNat (ZsK x b.toNat n)
  | none=>Zd.Instances d,Zd.YQ d,Zd.YR d,())
def nth (pl:List Pl) (net:Int) (k:Nat):Nat:=(cat (ZdM net) 0 (pl.take k)).length
def ZwU (b:Zc) (k:Nat):Int:=match (places (Zc.Design b))[k]? with
 | some p=>if p.2.2.2.1=true then 0 else match (Zc.Yw b)[p.2.2.1.toNat]? with
  | some w=>((Zq.Zc0 w)[nth (places (Zc.Design b)) p.2.2.1 k]?).getD 0
  | none=>0
 | none=>0
def ZsL (w:Zq) (l:List Int):Zq:=(Zq.Parent w,Zq.Res w,Zq.Cap w,l,())
def wired (pl:List Pl) (ws:List Zq) (nd:Nat->Int):List Zq:=cat (λv w=>[ZsL w ((cat (ZdM (v:Int)) 0 pl).map (λk=>nd k.toNat))]) 0 ws
theorem Zqs {d:Zd} {a b n:Int}:(Zd.Instances (conn d a b n)).length=(Zd.Instances d).length:=by
 unfold conn;split
 ·rfl
 ·show (match (Zd.Instances d)[a.toNat]? with | some x=>(Zd.Instances d).set a.toNat (ZsK x b.toNat n) | none=>Zd.Instances d).length=_
  split
  ·rw[List.length_set]
  ·rfl
theorem Zqt {d:Zd} {a b n:Int}:(Zd.YR (conn d a b n)).length=(Zd.YR d).length:=by
 unfold conn;split
 ·show (match (Zd.YR d)[b.toNat]? with | some x=>(Zd.YR d).set b.toNat (setPort x n) | none=>Zd.YR d).length=_
  split
  ·rw[List.length_set]
  ·rfl
 ·rfl
theorem Zry {d:Zd} {a b n:Int} {i:Nat} {y:Zi} (hy:(Zd.Instances (conn d a b n))[i]?=some y):∃ x,(Zd.Instances d)[i]?=some x/\Zi.Name y=Zi.Name x/\Zi.Cell y=Zi.Cell x/\(Zi.YQ y).length=(Zi.YQ x).length/\((i:Int)≠a->y=x)/\∀ m∈Zi.YQ y,m∈Zi.YQ x\/m=n:=by
 unfold conn at hy;split at hy
 ·exact ⟨y,hy,rfl,rfl,rfl,λ_=>rfl,λm hm=>.inl hm⟩
 ·rename_i h
  have hy:(match (Zd.Instances d)[a.toNat]? with | some x=>(Zd.Instances d).set a.toNat (ZsK x b.toNat n) | none=>Zd.Instances d)[i]?=some y:=hy
  split at hy
  ·rename_i x hx
   rw[List.getElem?_set] at hy;split at hy
   ·rename_i e
    split at hy
    ·injection hy with hy
     subst hy;refine ⟨x,by rw[<-e];exact hx,rfl,rfl,List.length_set,λq=>absurd (by omega) q,λm hm=>?_⟩;rcases List.mem_or_eq_of_mem_set hm with hm | hm
     ·exact .inl hm
     ·exact .inr hm
    ·cases hy
   ·exact ⟨y,hy,rfl,rfl,rfl,λ_=>rfl,λm hm=>.inl hm⟩
  ·exact ⟨y,hy,rfl,rfl,rfl,λ_=>rfl,λm hm=>.inl hm⟩
theorem Few.conn {d:Zd} (h:Few d) (a b n:Int):Few (conn d a b n):=by
 refine ⟨by rw[Zqs];exact h.insts,by rw[Zqt];exact h.ports,λy hy=>?_⟩;obtain ⟨i,hi⟩:=List.getElem?_of_mem hy;obtain ⟨x,hx,_,_,hl,_⟩:=Zry hi;rw[hl];exact h.nets x (List.mem_of_getElem? hx)
def mvD (b:Zc) (p:Pl) (n:Int):Zd:=conn (Zc.Design b) p.1 p.2.1 n
def mvN (b:Zc) (k:Nat) (v:Int) (j:Nat):Int:=if j=k then v else ZwU b j
def moved (b:Zc) (k:Nat) (p:Pl) (n v:Int):Zc:=(Zc.Library b,mvD b p n,wired (places (mvD b p n)) (Zc.Yw b) (mvN b k v),())
theorem ZdS.put {w:Zq} {s:Int} (h:ZdS w s) {l:List Int} (hl:Ze6 l 0 (((Zq.Parent w).length:Int)-1)):ZdS (ZsL w l) (l.length:Int) :=
 ⟨h.1,h.2.1,h.2.2.1,rfl,h.2.2.2.2.1,h.2.2.2.2.2.1,h.2.2.2.2.2.2.1,hl⟩
theorem Vi.take {l:List (List UInt8)} (h:Vi l l.length) (m:Nat):Vi (l.take m) (l.take m).length:=by
 intro j t hj ht;rw[List.length_take] at hj;rw[List.getElem?_take,if_pos (by omega)] at ht;obtain ⟨a,b⟩:=h j t (by omega) ht;refine ⟨a,?_⟩;rw[List.take_take,Nat.min_eq_left (by omega)];exact b
theorem ZmY {l:List Int} (h:l.length<=1048576):sm (.sl (.int .i64)) l:=⟨by omega,λ_ _=>trivial⟩
theorem Zh9 {a b c d:List Int} (h1:a.length<=1048576) (h2:b.length<=1048576) (h3:c.length<=1048576) (h4:d.length<=1048576):sm ZfS (a,b,c,d,()):=⟨ZmY h1,ZmY h2,ZmY h3,ZmY h4,trivial⟩
theorem ZoY {a:List Zi} {b:List (List UInt8)} {c:List Yr} (h1:sm (.sl ZcV) a) (h2:sm (.sl .str) b) (h3:sm (.sl Zo2) c):sm Xq (a,b,c,()):=⟨h1,h2,h3,trivial⟩
theorem Zl1 {a:Zy} {b:Zd} {c:List Zq} (h1:sm Qp a) (h2:sm Xq b) (h3:sm (.sl ZfS) c):sm YC (a,b,c,()):=⟨h1,h2,h3,trivial⟩
def DN (d:Zd):Prop:=(Zd.YQ d).length=(Za3 d).length+3/\(∃ r,(Za3 d)[0]?=some (117::r))/\∃ r,(Zd.YQ d)[3]?=some (110::r)
theorem Ztl.dn {d:Zd} (h:Ztl d):DN d:=by
 have hn:=h.n0;have hx:=List.getElem?_eq_getElem (show 0<(Zd.Instances d).length by omega);generalize (Zd.Instances d)[0]=x at hx;have hs:=List.getElem?_eq_getElem (show 3<(Zd.YQ d).length by have:=h.nl;omega);generalize (Zd.YQ d)[3]'(by have:=h.nl;omega)=s at hs;obtain ⟨⟨r,e,_⟩,_⟩:=h.inst x (List.mem_of_getElem? hx);obtain ⟨r2,e2,_⟩:=h.net s (List.mem_of_getElem? hs);refine ⟨by unfold Za3;rw[List.length_map];exact h.nl,⟨r,?_⟩,⟨r2,by rw[hs,e2]⟩⟩;unfold Za3;rw[List.getElem?_map,hx];exact congrArg some e
theorem Zze {d d':Zd} (h:DN d) (h1:Za3 d'=Za3 d) (h2:Zd.YQ d'=Zd.YQ d):DN d':=by
 unfold DN;rw[h1,h2];exact h
def Zx5 (b:Zc):Prop:=sm YC b/\(Zga b->Zc.Yw b≠[]->DN (Zc.Design b))
theorem DN.insts {d:Zd} (h:DN d):1<=(Zd.Instances d).length:=by
 obtain ⟨_,⟨r,e⟩,_⟩:=h;have:=(List.getElem?_eq_some_iff.1 e).1;unfold Za3 at this;rw[List.length_map] at this;omega
noncomputable def tl (b:Zc) (P:List ZQ) (k p c n d:Int) (nm:List UInt8) (w:Zq) (s:Zf):Option (Zg7×Zf) :=
 (Zj s (30:Int)).bind λr =>
 if r.fst=(0:Int) then
  (Zj r.snd (7:Int)).bind λr2=>some ((r2.fst,p,c,n,d,nm,w,()),r2.snd)
 else
  if r.fst=(1:Int) then
   (Zj r.snd (10:Int)).bind λr2=>some ((k,p,Wq (r2.fst-(1:Int)),n,d,nm,w,()),r2.snd)
  else
   if r.fst=(2:Int) then
    (Zj r.snd (Wq ((↑(List.length (Zc.Yw b)):Int)+(2:Int)))).bind λr2=>some ((k,p,c,Wq (r2.fst-(1:Int)),d,nm,w,()),r2.snd)
   else
    if r.fst=(3:Int) then
     (Zj r.snd (Wq ((↑(List.length P):Int)+(2:Int)))).bind λr2=>some ((k,Wq (r2.fst-(1:Int)),c,n,d,nm,w,()),r2.snd)
    else
     if r.fst=(4:Int) then
      some ((k,p,c,n,d,[(66:UInt8),(97:UInt8),(100:UInt8)],w,()),r.snd)
     else
      some ((k,p,c,n,d,nm,w,()),r.snd)
theorem Zql {s:Zf} (hs:Src s):Gets (ZcO s) (λr=>(Zx5 r.1/\Few (Zc.Design r.1))/\Src r.2):=by
 unfold ZcO;refine (Zz hs 3).bind λr0 ⟨_,h0⟩=>?_;refine (Zif h0 (most:=6) (by omega) (by omega) _).bind λr1 ⟨hb,h1⟩=>?_;obtain ⟨bl,bd,bw,bwi⟩:=hb;have hdn:=bd.dn;have hnl:=bd.nl;have hn0:=bd.n0;have hn1:=bd.n1;have hwl:5<=(Zc.Yw r1.1).length/\(Zc.Yw r1.1).length<=12:=by omega
 refine (Zz h1 _).bind λr2 ⟨⟨a0,a1⟩,h2⟩=>?_;have a1:r2.1<((Zc.Yw r1.1).length:Int):=by
  have a1:r2.1<((Zc.Yw r1.1).length:Int)\/r2.1=0:=a1;omega
 refine (Zz h2 20).bind λr3 ⟨_,h3⟩=>?_;have sw:∀ w∈Zc.Yw r1.1,sm ZfS w:=λw hw=>(bwi w hw).sm;have set_:∀ (w:Zq),sm ZfS w->sm (.sl ZfS) (List.set (Zc.Yw r1.1) (Int.toNat r2.1) w):=λw hw=>smL (by rw[List.length_set];omega) (Zmg sw hw);have fin:∀ (ws:List Zq) (t:Zf),sm (.sl ZfS) ws->Src t->Gets (some ((r1.1.1,r1.1.2.1,ws,()),t)) (λr:Zc×Zf=>(Zx5 r.1/\Few (Zc.Design r.1))/\Src r.2):=λws t hw ht =>
  .ret ⟨⟨⟨Zl1 bl bd.sm hw,λ_ _=>hdn⟩,bd.few⟩,ht⟩
 refine Gets.ite (λ_=>?_) (λ_=>?_)
 ·refine .guard (by show (1:Int)<=((Zc.Yw r1.1).length:Int);omega) (.guard (Int.le_refl _) ?_)
  refine fin _ _ (smL ?_ (λw hw=>sw w ?_)) h3
  ·show (List.take _ (List.drop _ (Zc.Yw r1.1))).length<=_
   rw[List.length_take,List.length_drop];omega
  ·exact List.mem_of_mem_drop (List.mem_of_mem_take hw)
 refine Gets.ite (λ_=>?_) (λ_=>?_)
 ·refine .at a0 a1 λw hw _=>?_
  obtain ⟨⟨w1,w2⟩,w3,w4,w5⟩:=bwi w hw;have w5:(w.snd.snd.snd.fst).length<=100:=w5;rw[ZmB _ (by omega),Bq];refine .guard (by simp only[List.length_cons,List.length_nil];omega) (fin _ _ (set_ _ ?_) h3);refine Zh9 (by show (Zq.Parent w).length<=_;omega) (by show (Zq.Res w).length<=_;omega) (by show (Zq.Cap w).length<=_;omega) ?_;rw[List.length_append];simp only[List.length_cons,List.length_nil];omega
 refine Gets.ite (λ_=>?_) (λ_=>?_)
 ·refine .at a0 a1 λw hw _=>?_
  obtain ⟨⟨w1,w2⟩,w3,w4,w5⟩:=bwi w hw;refine .at (by omega) (by show (0:Int)<((Zq.Res w).length:Int);omega) λ_ _ _=>fin _ _ (set_ _ ?_) h3;refine Zh9 (by show (Zq.Parent w).length<=_;omega) (by show (List.set (Zq.Res w) _ _).length<=_;rw[List.length_set];omega) (by show (Zq.Cap w).length<=_;omega) (by show (Zq.Zc0 w).length<=_;omega)
 refine Gets.ite (λ_=>?_) (λ_=>?_)
 ·refine .at a0 a1 λw hw _=>?_
  obtain ⟨⟨w1,w2⟩,w3,w4,w5⟩:=bwi w hw;refine (Zz h3 3).bind λr4 ⟨⟨b0,b1⟩,h4⟩=>?_;refine .at b0 (by simp only[List.length_cons,List.length_nil];omega) λ_ _ _=>?_;refine .at (by omega) (by show (0:Int)<((Zq.Cap w).length:Int);omega) λ_ _ _=>fin _ _ (set_ _ ?_) h4;refine Zh9 (by show (Zq.Parent w).length<=_;omega) (by show (Zq.Res w).length<=_;omega) (by show (List.set (Zq.Cap w) _ _).length<=_;rw[List.length_set];omega) (by show (Zq.Zc0 w).length<=_;omega)
 refine Gets.ite (λ_=>?_) (λ_=>?_)
 ·refine .at a0 a1 λw hw _=>?_
  obtain ⟨⟨w1,w2⟩,w3,w4,w5⟩:=bwi w hw;refine (Zz h3 5).bind λr4 ⟨_,h4⟩=>?_;have ew:Wq (((Zq.Parent w).length:Int)-1)=((Zq.Parent w).length:Int)-1:=YI (by omega) (by omega);refine .at (by show (0:Int)<=Wq (((Zq.Parent w).length:Int)-1);omega) (by show Wq (((Zq.Parent w).length:Int)-1)<((Zq.Parent w).length:Int);omega) λ_ _ _=>fin _ _ (set_ _ ?_) h4;refine Zh9 (by show (List.set (Zq.Parent w) _ _).length<=_;rw[List.length_set];omega) (by show (Zq.Res w).length<=_;omega) (by show (Zq.Cap w).length<=_;omega) (by show (Zq.Zc0 w).length<=_;omega)
 refine Gets.ite (λ_=>?_) (λ_=>?_)
 ·refine .at (by omega) (by show (0:Int)<((Zd.YR (Zc.Design r1.1)).length:Int);have:=bd.p0;omega) λp hp _=>?_
  obtain ⟨s1,s2,s3⟩:=ZfJ bd.sm;have hpd:=bd.port p hp;unfold Zri at hpd;refine .ret ⟨⟨⟨Zl1 bl (ZoY s1 s3 ?_) (smL (by show (Zc.Yw r1.1).length<=_;omega) sw),λ_ _=>Zze hdn rfl rfl⟩,⟨bd.few.insts,by show (List.set (Zd.YR (Zc.Design r1.1)) _ _).length<=_;rw[List.length_set];exact bd.few.ports,bd.few.nets⟩⟩,h3⟩;refine smL (by show (List.set (Zd.YR (Zc.Design r1.1)) _ _).length<=_;rw[List.length_set];have:=bd.p1;omega) (Zmg s2.2 ⟨smS (by show (Yr.Name p).length<=_;omega),trivial,trivial,trivial⟩)
 ·exact fin _ _ (smL (by show (Zc.Yw r1.1).length<=_;omega) sw) h3
theorem bytesD {code:List Int} (hb:bnd (.sl (.int .u8)) code):∀ x∈code,0<=x/\x<=255:=λx hx=>hb.2 x hx
end Go.Proofs.YtgjjlgodlhhdoaaGreatDoor
