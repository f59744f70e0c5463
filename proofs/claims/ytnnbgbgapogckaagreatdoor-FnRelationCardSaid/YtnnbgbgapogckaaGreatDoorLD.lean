/-
  Plain laws: what a draw yields: the source, its numbers.
-/
import Derived.Test.YtnnbgbgapogckaaGreatDoorLA
import Derived.Test.YtnnbgbgapogckaaGreatDoorM
import Derived.Test.YtnnbgbgapogckaaGreatDoorLC
import Derived.Test.YtnnbgbgapogckaaGreatDoorLB
import Derived.Test.YtnnbgbgapogckaaGreatDoorSxBr
namespace Go.Proofs.YtnnbgbgapogckaaGreatDoor
set_option linter.unusedVariables false
set_option linter.unusedSimpArgs false
open Go Go.Sx
def Gets {α:Type} (o:Option α) (Q:α→Prop):Prop:=∃ a,o=some a∧Q a
theorem Gets.ret {α:Type} {a:α} {Q:α→Prop} (h:Q a):Gets (some a) Q:=⟨a,rfl,h⟩
theorem Gets.bind {α β:Type} {o:Option α} {P:α→Prop} {f:α→Option β} {Q:β→Prop} (h:Gets o P) (k:∀ a,P a→Gets (f a) Q):Gets (o.bind f) Q:=by
 obtain ⟨a,e,hp⟩:=h
 rw [e]
 exact k a hp
theorem Gets.guard {α:Type} {p:Prop} {o:Option α} {Q:α→Prop} (h:p) (k:Gets o Q):Gets (Zj p o) Q:=by rw [ZB h];exact k
theorem Gets.at {α β:Type} {l:List α} {i:Int} {f:α→Option β} {Q:β→Prop} (h0:0≤i) (h1:i<(l.length:Int)) (k:∀ x,x∈l→l[i.toNat]?=some x→Gets (f x) Q):Gets ((atI l i).bind f) Q:=by
 obtain ⟨x,e,hx⟩:=Zbn h0 h1
 rw [e]
 exact k x (List.mem_of_getElem? hx) hx
theorem Gets.mono {α:Type} {o:Option α} {P Q:α→Prop} (h:Gets o P) (k:∀ a,P a→Q a):Gets o Q:=by
 obtain ⟨a,e,hp⟩:=h
 exact ⟨a,e,k a hp⟩
theorem Gets.of {α:Type} {o:Option α} {a:α} {Q:α→Prop} (e:o=some a) (h:Q a):Gets o Q:=⟨a,e,h⟩
def Rnd {τ ρ:Type} (I:τ→Prop) (μ:τ→Nat) (m:Nat) (Q:ρ→Prop):τ ⊕ ρ→Prop
 | .inl v=>I v∧μ v<m
 | .inr r=>Q r
theorem Gets.loop {τ ρ:Type} {step:τ→Option (τ ⊕ ρ)} (I:τ→Prop) (μ:τ→Nat) {Q:ρ→Prop} {v:τ} (h0:I v) (hs:∀ v,I v→Gets (step v) (Rnd I μ (μ v) Q)):Gets (ZA step v) Q:=by
 refine ZeX I μ Q h0 (fun v hI=>?_)
 obtain ⟨r,e,h⟩:=hs v hI
 cases r with
 | inl v'=>exact .inl ⟨v',e,h⟩
 | inr r=>exact .inr ⟨r,e,h⟩
structure Src (s:Za):Prop where
 code:∀ x∈Za.code s,0≤x∧x≤255
 len:(Za.code s).length≤4096
 at0:0≤Za.at s
 at1:Za.at s≤4096
 sd0:0≤Za.seed s
 sd1:Za.seed s<2147483647
def Bel (n k:Int):Prop:=0≤k∧(k<n∨k=0)
theorem Zf {s:Za} (hs:Src s) (n:Int):Gets (Zc s n) (fun r=>Bel n r.1∧Src r.2):=by
 obtain ⟨hc,hl,a0,a1,s0,s1⟩:=hs
 unfold Zc
 split
 ·exact .ret ⟨⟨Int.le_refl _,.inr rfl⟩,⟨hc,hl,a0,a1,s0,s1⟩⟩
 rename_i hn
 split
 ·rename_i hat
  refine .at a0 hat fun x hx _=>?_
  obtain ⟨b0,b1⟩:=hc x hx
  have e1:Wq (Za.at s+1)=Za.at s+1:=XD (by omega) (by omega)
  have e2:Wq x=x:=XD (by omega) (by omega)
  have e3:Wq (Za.seed s*48271)=Za.seed s*48271:=XD (by omega) (by omega)
  have e4:Wq (Za.seed s*48271+x)=Za.seed s*48271+x:=XD (by omega) (by omega)
  have e5:Wq (Za.seed s*48271+x+1)=Za.seed s*48271+x+1:=XD (by omega) (by omega)
  simp only [e2,e3,e4,e5,e1]
  split
  ·refine .guard (by omega) (.ret ⟨⟨Int.tmod_nonneg _ b0,.inl (Int.tmod_lt_of_pos _ (by omega))⟩,⟨hc,hl,?_,?_,s0,s1⟩⟩)
   ·show 0≤Za.at s+1;omega
   ·show Za.at s+1≤4096;omega
  ·have m0:=Int.tmod_nonneg (a:=Za.seed s*48271+x+1) 2147483647 (by omega)
   have m1:=Int.tmod_lt_of_pos (Za.seed s*48271+x+1) (show (0:Int)<2147483647 by omega)
   refine .guard (by omega) (.ret ⟨⟨Int.tmod_nonneg _ m0,.inl (Int.tmod_lt_of_pos _ (by omega))⟩,⟨hc,hl,?_,?_,m0,m1⟩⟩)
   ·show 0≤Za.at s+1;omega
   ·show Za.at s+1≤4096;omega
 ·have e3:Wq (Za.seed s*48271)=Za.seed s*48271:=XD (by omega) (by omega)
  have e4:Wq (Za.seed s*48271+11)=Za.seed s*48271+11:=XD (by omega) (by omega)
  simp only [e3,e4]
  have m0:=Int.tmod_nonneg (a:=Za.seed s*48271+11) 2147483647 (by omega)
  have m1:=Int.tmod_lt_of_pos (Za.seed s*48271+11) (show (0:Int)<2147483647 by omega)
  generalize (Za.seed s*48271+11).tmod 2147483647=q at m0 m1
  have d0:q.tdiv 7=q / 7:=Int.tdiv_eq_ediv_of_nonneg m0
  rw [d0,XD (n:=q / 7) (by omega) (by omega)]
  exact .guard (by omega) (.ret ⟨⟨Int.tmod_nonneg _ (by omega),.inl (Int.tmod_lt_of_pos _ (by omega))⟩,⟨hc,hl,a0,a1,m0,m1⟩⟩)
theorem Zjd {code:List Int} (hc:∀ x∈code,0≤x∧x≤255) (hl:code.length≤4096):Gets (Ve code) Src:=by
 unfold Ve
 refine Gets.loop (fun v=>0≤v.1∧v.1≤64∧0≤v.2.1∧v.2.1<2147483647) (fun v=>(64-v.1).toNat) ⟨Int.le_refl _,by show (0:Int)≤64;omega,by show (0:Int)≤12345;omega,by show (12345:Int)<2147483647;omega⟩ ?_
 rintro ⟨i,c,⟨⟩⟩ ⟨i0,i1,c0,c1⟩
 simp only at i0 i1 c0 c1
 have fin:Gets (some (.inr (code,(0:Int),c,()):(Int×Int×Unit) ⊕ Za)) (Rnd (fun v:Int×Int×Unit=>0≤v.1∧v.1≤64∧0≤v.2.1∧v.2.1<2147483647) (fun v=>(64-v.1).toNat) ((fun v:Int×Int×Unit=>(64-v.1).toNat) (i,c,())) Src) :=
  .ret (show Src (code,(0:Int),c,()) from ⟨hc,hl,Int.le_refl _,by show (0:Int)≤4096;omega,c0,c1⟩)
 show Gets (Xp code i c) _
 unfold Xp
 split
 ·rename_i hi
  split
  ·rename_i h64
   refine .at i0 hi fun x hx _=>?_
   obtain ⟨b0,b1⟩:=hc x hx
   have e1:Wq (i+1)=i+1:=XD (by omega) (by omega)
   have e2:Wq x=x:=XD (by omega) (by omega)
   have e3:Wq (c*31)=c*31:=XD (by omega) (by omega)
   have e4:Wq (c*31+x)=c*31+x:=XD (by omega) (by omega)
   simp only [e1,e2,e3,e4]
   refine .ret ⟨⟨?_,?_,Int.tmod_nonneg _ (by omega),Int.tmod_lt_of_pos _ (by omega)⟩,?_⟩
   ·show 0≤i+1;omega
   ·show i+1≤64;omega
   ·show (64-(i+1)).toNat<(64-i).toNat;omega
  ·exact fin
 ·exact fin
theorem ZcZ {n:Int} (h0:0≤n) (h1:n<100):Gets (XG n) (fun r=>r.length≤2):=by
 have one:∀ (k:Nat) (m:Int),0≤m→m<10→Yp (k+1) m=some (bytesOf [IntKind.wrap IntKind.u8 (Wq (48+m))]):=fun k m a b=>by
  show ZN (Yp k) m=_
  unfold ZN
  rw [if_neg (by omega),if_pos b]
 have hb:∀ x:Int,(bytesOf [x]).length=1:=fun x=>rfl
 unfold XG
 by_cases h:n<10
 ·refine .of (Zfz ⟨1,one 0 n h0 h⟩ (fun k r hr=>?_)) (by rw [hb];omega)
  cases k with
  | zero=>cases hr
  | succ k=>rw [one k n h0 h] at hr;injection hr with hr;exact hr.symm
 ·have hd:n.tdiv 10=n / 10:=Int.tdiv_eq_ediv_of_nonneg h0
  have two:∀ k:Nat,Yp (k+2) n=some (bytesOf [IntKind.wrap IntKind.u8 (Wq (48+n / 10))]++bytesOf [IntKind.wrap IntKind.u8 (Wq (48+n.tmod 10))]):=fun k=>by
   show ZN (Yp (k+1)) n=_
   unfold ZN
   rw [if_neg (by omega),if_neg h,hd,XD (n:=n / 10) (by omega) (by omega),one k (n / 10) (by omega) (by omega),Bq,ZB (by rw [hb,hb];omega)]
  refine .of (Zfz ⟨2,two 0⟩ (fun k r hr=>?_)) (by rw [List.length_append,hb,hb];omega)
  match k,hr with
  | 0,hr=>cases hr
  | 1,hr =>
   exfalso
   revert hr
   show ¬ZN (Yp 0) n=some r
   unfold ZN
   rw [if_neg (by omega),if_neg h]
   intro hr
   cases hr
  | k+2,hr=>rw [two k] at hr;injection hr with hr;exact hr.symm
theorem Yi {α:Type} {P:α→Prop} {l:List α} {x:α} (h:∀ y∈l,P y) (hx:P x):∀ y∈l++[x],P y:=by
 intro y hy
 rcases List.mem_append.1 hy with hy | hy
 ·exact h y hy
 ·rw [List.mem_singleton] at hy
  rw [hy];exact hx
theorem Ze7 {α:Type} {P:α→Prop} {l:List α} {x:α} {i:Nat} (h:∀ y∈l,P y) (hx:P x):∀ y∈l.set i x,P y:=by
 intro y hy
 rcases List.mem_or_eq_of_mem_set hy with hy | hy
 ·exact h y hy
 ·rw [hy];exact hx
theorem smI {l:List Int} (h:l.length≤1048576):sm (.sl (.int .i64)) l:=⟨by omega,fun _ _=>trivial⟩
theorem smS {s:List UInt8} (h:s.length≤1048576):sm .str s:=by show (s.length:Int)≤1048576;omega
theorem smL {t:Ty} {l:List t.den} (h:l.length≤1048576) (h2:∀ x∈l,sm t x):sm (.sl t) l:=⟨by omega,h2⟩
/-
  Plain laws: what the draws of tables, arcs, cells and libraries yield.
-/
theorem ZfT {s:Za} (hs:Src s) (st:Int):Gets (YU s st) (fun r=>(1≤r.1.length∧r.1.length≤3)∧Src r.2):=by
 unfold YU
 refine (Zf hs st).bind fun r0 ⟨_,h0⟩=>?_
 refine (Zf h0 3).bind fun r1 ⟨⟨a,b⟩,h1⟩=>?_
 have e:Wq (1+r1.1)=1+r1.1:=XD (by omega) (by omega)
 rw [e]
 refine Gets.loop (fun v=>0≤v.2.2.1∧(v.1.length:Int)+v.2.2.1=1+r1.1∧Src (v.2.2.2.1,v.2.2.2.2.1,v.2.2.2.2.2.1,())) (fun v=>v.2.2.1.toNat) ⟨by dsimp only;omega,by dsimp only [List.length_nil];omega,h1⟩ ?_
 rintro ⟨out,t,n,c0,c1,c2,⟨⟩⟩ ⟨i1,i2,i3⟩
 dsimp only at i1 i2 i3
 show Gets (Yv st out t n c0 c1 c2) _
 unfold Yv
 have hw:Wq (n-1)=n-1:=XD (by omega) (by omega)
 rw [hw]
 split
 ·refine .guard (by simp only [List.length_cons,List.length_nil];omega) ?_
  refine (Zf i3 st).bind fun r ⟨_,h2⟩=>?_
  refine .ret ⟨⟨by dsimp only;omega,by dsimp only;simp only [List.length_append,List.length_cons,List.length_nil];omega,h2⟩,by dsimp only;omega⟩
 ·exact .ret ⟨⟨by dsimp only;omega,by dsimp only;omega⟩,i3⟩
theorem Zl1 {a b:Nat} (ha:1≤a∧a≤3) (hb:1≤b∧b≤3):(b:Int)≤(a:Int)*(b:Int)∧(a:Int)*(b:Int)≤9:=by
 have:a=1∨a=2∨a=3:=by omega
 rcases this with rfl | rfl | rfl<;>omega
theorem ZeW {s:Za} (hs:Src s) (base:Int):Gets (Qy s base) (fun r=>sm ZdQ r.1∧Src r.2):=by
 unfold Qy
 refine (ZfT hs 60).bind fun r0 ⟨ha,h0⟩=>?_
 refine (ZfT h0 40).bind fun r1 ⟨hb,h1⟩=>?_
 obtain ⟨p1,p2⟩:=Zl1 ha hb
 refine Gets.loop (fun v=>0≤v.2.1∧v.2.1≤9∧(v.1.length:Int)=v.2.1∧Src (v.2.2.1,v.2.2.2.1,v.2.2.2.2.1,())) (fun v=>(9-v.2.1).toNat) ⟨by dsimp only;omega,by dsimp only;omega,by dsimp only [List.length_nil];omega,h1⟩ ?_
 rintro ⟨out,i,c0,c1,c2,⟨⟩⟩ ⟨i0,i1,i2,i3⟩
 dsimp only at i0 i1 i2 i3
 show Gets (Xq base r0 r1 out i c0 c1 c2) _
 unfold Xq
 have e0:Wq ((r0.1.length:Int)*(r1.1.length:Int))=(r0.1.length:Int)*(r1.1.length:Int):=XD (by omega) (by omega)
 have e1:Wq (i+1)=i+1:=XD (by omega) (by omega)
 have e2:Wq (i-1)=i-1:=XD (by omega) (by omega)
 have e3:Wq (i-(r1.1.length:Int))=i-(r1.1.length:Int):=XD (by omega) (by omega)
 rw [e0,e1,e2,e3]
 split
 ·rename_i hi
  have nx:∀ (x:Int) (t:Za),Src t→Gets (Zj ((List.length out+List.length [x])*(8:Nat)≤(140737488355328:Nat)) (some (.inl (out++[x],i+1,t.fst,t.snd.fst,t.snd.snd.fst,()):(List Int×Int×List Int×Int×Int×Unit) ⊕ (Jy×Za))))
    (Rnd (fun v:List Int×Int×List Int×Int×Int×Unit=>0≤v.2.1∧v.2.1≤9∧(v.1.length:Int)=v.2.1∧Src (v.2.2.1,v.2.2.2.1,v.2.2.2.2.1,())) (fun v=>(9-v.2.1).toNat) (9-i).toNat (fun r=>sm ZdQ r.1∧Src r.2)):=fun x t ht =>
   .guard (by simp only [List.length_cons,List.length_nil];omega) (.ret ⟨⟨by dsimp only;omega,by dsimp only;omega,by dsimp only;simp only [List.length_append,List.length_cons,List.length_nil];omega,ht⟩,by dsimp only;omega⟩)
  refine (Zf i3 10).bind fun r ⟨_,g0⟩=>?_
  refine .guard (by omega) ?_
  split
  ·rename_i hm
   have hne:i≠0:=by
    intro q
    rw [q,Int.zero_tmod] at hm
    omega
   refine .at (by omega) (by omega) fun x0 _ _=>?_
   refine (Zf g0 20).bind fun r2 ⟨_,g1⟩=>?_
   split
   ·refine .at (by omega) (by omega) fun x1 _ _=>?_
    refine (Zf g1 20).bind fun r3 ⟨_,g2⟩=>?_
    exact nx _ _ g2
   ·exact nx _ _ g1
  ·split
   ·refine .at (by omega) (by omega) fun x1 _ _=>?_
    refine (Zf g0 20).bind fun r3 ⟨_,g2⟩=>?_
    exact nx _ _ g2
   ·exact nx _ _ g0
 ·exact .ret ⟨⟨smI (by dsimp only;omega),smI (by dsimp only;omega),smI (by dsimp only;omega),trivial⟩,i3⟩
theorem Zbg {s:Za} (hs:Src s) (base:Int):Gets (Z7 s base) (fun r=>sm (.sl ZdQ) r.1∧Src r.2):=by
 unfold Z7
 refine (ZeW hs base).bind fun r0 ⟨a,h0⟩=>?_
 refine (ZeW h0 base).bind fun r1 ⟨b,h1⟩=>?_
 refine .ret ⟨smL (by dsimp only [List.length_cons,List.length_nil];omega) (fun x hx=>?_),h1⟩
 rcases List.mem_cons.1 hx with rfl | hx
 ·exact a
 ·rw [List.mem_singleton] at hx
  rw [hx];exact b
theorem Zbm {s:Za} (hs:Src s) (k f t se:Int):Gets (Yf s k f t se) (fun r=>sm Zmv r.1∧Src r.2):=by
 unfold Yf
 split
 ·refine (Zf hs 10).bind fun r0 ⟨_,h0⟩=>?_
  refine (Zbg h0 _).bind fun r1 ⟨a,h1⟩=>?_
  exact .ret ⟨⟨trivial,trivial,trivial,trivial,a,smL (by simp) (by simp),trivial⟩,h1⟩
 ·refine (Zf hs 20).bind fun r0 ⟨_,h0⟩=>?_
  refine (Zbg h0 _).bind fun r1 ⟨a,h1⟩=>?_
  refine (Zbg h1 _).bind fun r2 ⟨b,h2⟩=>?_
  exact .ret ⟨⟨trivial,trivial,trivial,trivial,a,b,trivial⟩,h2⟩
theorem JE {c:QG} {pin b:Int} (hu:(0:Int)≤IntKind.wrap IntKind.u64 pin) (hbit:Wq ((1:Int)*(2:Int) ^ Min.min (Int.toNat (IntKind.wrap IntKind.u64 pin)) (IntKind.bits IntKind.i64))=b) (hL:(QG.Truth c).length≤8) (b0:0≤b) (b1:b≤8)
  (hb:∀ i:Int,0≤i→i<((QG.Truth c).length:Int)→Go.bits Go.BinOp.and IntKind.i64 i b=0→i+b<((QG.Truth c).length:Int)):Gets (X5 c pin) (fun _=>True):=by
 unfold X5
 refine .guard hu ?_
 refine Gets.loop (fun v=>0≤v.2.2.1∧v.2.2.1≤8) (fun v=>(8-v.2.2.1).toNat) ⟨by dsimp only;omega,by dsimp only;omega⟩ ?_
 rintro ⟨ra,lo,i,⟨⟩⟩ ⟨i0,i1⟩
 dsimp only at i0 i1
 show Gets (Xb c pin ra lo i) _
 unfold Xb
 have e1:Wq (i+1)=i+1:=XD (by omega) (by omega)
 have e2:Wq (i+b)=i+b:=XD (by omega) (by omega)
 simp only [hbit,e1,e2]
 split
 ·rename_i hi
  have nx:∀ r l:Bool,Gets (some (.inl (r,l,i+1,()):(Bool×Bool×Int×Unit) ⊕ Int)) (Rnd (fun v:Bool×Bool×Int×Unit=>0≤v.2.2.1∧v.2.2.1≤8) (fun v=>(8-v.2.2.1).toNat) (8-i).toNat (fun _=>True)):=fun r l =>
   .ret ⟨⟨by dsimp only;omega,by dsimp only;omega⟩,by dsimp only;omega⟩
  split
  ·rename_i hz
   have hlt:=hb i i0 hi hz
   repeat' first
    | exact nx _ _
    | split
    | refine Gets.at (by omega) (by omega) fun _ _ _=>?_
  ·exact nx _ _
 ·repeat' first
   | exact Gets.ret (show Rnd _ _ _ (fun _=>True) (.inr _) from trivial)
   | split
theorem eight {i:Int} (h0:0≤i) (h1:i<8):i=0∨i=1∨i=2∨i=3∨i=4∨i=5∨i=6∨i=7:=by omega
theorem Zii {c:QG} {pin:Int} (h:((QG.Truth c).length=2∧pin=0)∨((QG.Truth c).length=4∧(pin=0∨pin=1))∨((QG.Truth c).length=8∧(pin=0∨pin=1∨pin=2))):Gets (X5 c pin) (fun _=>True):=by
 have k0:∀ L:Int,(L=2∨L=4∨L=8)→∀ i:Int,0≤i→i<L→Go.bits Go.BinOp.and IntKind.i64 i 1=0→i+1<L:=by
  intro L hL i h0 h1 hz
  rcases eight h0 (by omega) with rfl | rfl | rfl | rfl | rfl | rfl | rfl | rfl<;>first | omega | exact absurd hz (by decide)
 have k1:∀ L:Int,(L=4∨L=8)→∀ i:Int,0≤i→i<L→Go.bits Go.BinOp.and IntKind.i64 i 2=0→i+2<L:=by
  intro L hL i h0 h1 hz
  rcases eight h0 (by omega) with rfl | rfl | rfl | rfl | rfl | rfl | rfl | rfl<;>first | omega | exact absurd hz (by decide)
 have k2:∀ L:Int,L=8→∀ i:Int,0≤i→i<L→Go.bits Go.BinOp.and IntKind.i64 i 4=0→i+4<L:=by
  intro L hL i h0 h1 hz
  rcases eight h0 (by omega) with rfl | rfl | rfl | rfl | rfl | rfl | rfl | rfl<;>first | omega | exact absurd hz (by decide)
 rcases h with ⟨hl,rfl⟩ | ⟨hl,rfl | rfl⟩ | ⟨hl,rfl | rfl | rfl⟩
 ·exact JE (b:=1) (by decide) (by decide) (by omega) (by omega) (by omega) (k0 _ (by omega))
 ·exact JE (b:=1) (by decide) (by decide) (by omega) (by omega) (by omega) (k0 _ (by omega))
 ·exact JE (b:=2) (by decide) (by decide) (by omega) (by omega) (by omega) (k1 _ (by omega))
 ·exact JE (b:=1) (by decide) (by decide) (by omega) (by omega) (by omega) (k0 _ (by omega))
 ·exact JE (b:=2) (by decide) (by decide) (by omega) (by omega) (by omega) (k1 _ (by omega))
 ·exact JE (b:=4) (by decide) (by decide) (by omega) (by omega) (by omega) (k2 _ (by omega))
theorem Zar {s:Za} (hs:Src s) {nm:List UInt8} (hn:nm.length≤5) {tr:List Int} (ht:tr.length=2∨tr.length=4∨tr.length=8):Gets (Y3 s nm tr) (fun r=>sm Zin r.1∧Src r.2):=by
 unfold Y3
 refine (Zf hs 50).bind fun r0 ⟨_,h0⟩=>?_
 refine (Zf h0 80).bind fun r1 ⟨_,h1⟩=>?_
 refine Gets.loop (fun v=>((v.1.length=0∧v.2.1=1)∨(v.1.length=1∧v.2.1=2)∨(v.1.length=2∧v.2.1=4)∨(v.1.length=3∧v.2.1=8))∧v.2.1≤(tr.length:Int)∧(∀ x∈v.1,sm Zl9 x)∧Src (v.2.2.1,v.2.2.2.1,v.2.2.2.2.1,())) (fun v=>(8-v.2.1).toNat)
  ⟨.inl ⟨rfl,rfl⟩,by dsimp only;omega,fun x hx=>(by cases hx),h1⟩ ?_
 rintro ⟨pins,n,c0,c1,c2,⟨⟩⟩ ⟨i1,i2,i3,i4⟩
 dsimp only at i1 i2 i3 i4
 show Gets (Xt nm tr r0 r1 pins n c0 c1 c2) _
 unfold Xt
 split
 ·rename_i hlt
  refine .at (by omega) (by simp only [List.length_cons,List.length_nil];omega) fun x hx _=>?_
  have hx1:x.length≤1:=by
   simp only [List.mem_cons,List.not_mem_nil,or_false] at hx
   rcases hx with rfl | rfl | rfl | rfl<;>exact Nat.le_refl _
  refine (Zf i4 9).bind fun r ⟨_,h2⟩=>?_
  have e1:Wq (2*n)=2*n:=XD (by omega) (by omega)
  rw [e1]
  refine .guard (by simp only [List.length_cons,List.length_nil];omega) (.ret ⟨⟨?_,by dsimp only;omega,Yi i3 ⟨smS (by (try dsimp only);omega),trivial,trivial,trivial,trivial⟩,h2⟩,by dsimp only;omega⟩)
  dsimp only
  simp only [List.length_append,List.length_cons,List.length_nil]
  omega
 ·refine .guard (by simp only [List.length_cons,List.length_nil];omega) ?_
  refine Gets.loop (fun v=>0≤v.2.1∧v.2.1≤3∧(v.1.length:Int)≤v.2.1∧(∀ x∈v.1,sm Zmv x)∧Src (v.2.2.1,v.2.2.2.1,v.2.2.2.2.1,())) (fun v=>(3-v.2.1).toNat) ⟨by dsimp only;omega,by dsimp only;omega,by dsimp only [List.length_nil];omega,fun x hx=>(by cases hx),i4⟩ ?_
  rintro ⟨arcs,p,d0,d1,d2,⟨⟩⟩ ⟨j0,j1,j2,j3,j4⟩
  dsimp only at j0 j1 j2 j3 j4
  show Gets (Xr nm tr r0 r1 pins arcs p d0 d1 d2) _
  unfold Xr
  have e1:Wq (p+1)=p+1:=XD (by omega) (by omega)
  rw [e1]
  split
  ·rename_i hp
   refine (Zii (by
    show (tr.length=2∧p=0)∨(tr.length=4∧(p=0∨p=1))∨(tr.length=8∧(p=0∨p=1∨p=2))
    omega)).bind fun se _=>?_
   split
   ·exact .ret ⟨⟨by dsimp only;omega,by dsimp only;omega,by dsimp only;omega,j3,j4⟩,by dsimp only;omega⟩
   ·refine (Zbm j4 1 p _ se).bind fun r ⟨ha,h2⟩=>?_
    refine .guard (by simp only [List.length_cons,List.length_nil];omega) (.ret ⟨⟨by dsimp only;omega,by dsimp only;omega,?_,Yi j3 ha,h2⟩,by dsimp only;omega⟩)
    dsimp only
    simp only [List.length_append,List.length_cons,List.length_nil]
    omega
  ·refine .ret ⟨⟨smS (by (try dsimp only);omega),trivial,smL ?_ (Yi i3 ⟨smS (by dsimp only [List.length_cons,List.length_nil];omega),trivial,trivial,trivial,trivial⟩),smL (by (try dsimp only);omega) j3,smI (by (try dsimp only);omega),trivial,trivial,trivial⟩,j4⟩
   (try dsimp only)
   simp only [List.length_append,List.length_cons,List.length_nil]
   omega
theorem Zde {s:Za} (hs:Src s) {nm:List UInt8} (hn:nm.length≤5) (k e:Int):Gets (Yq s nm k e) (fun r=>sm Zin r.1∧Src r.2):=by
 have hp:∀ a b:Int,sm (.sl Zl9) [([(100:UInt8)],(1:Int),a,Bool.false,()),([(99:UInt8),(107:UInt8)],(1:Int),b,Bool.true,()),([(113:UInt8)],(2:Int),(0:Int),Bool.false,())]:=fun a b=>by
  refine smL (by (try dsimp only);simp only [List.length_cons,List.length_nil];omega) (fun x hx=>?_)
  simp only [List.mem_cons,List.not_mem_nil,or_false] at hx
  rcases hx with rfl | rfl | rfl<;>exact ⟨smS (by simp only [List.length_cons,List.length_nil];omega),trivial,trivial,trivial,trivial⟩
 unfold Yq
 refine (Zf hs 50).bind fun r0 ⟨_,h0⟩=>?_
 refine (Zf h0 80).bind fun r1 ⟨_,h1⟩=>?_
 refine (Zf h1 9).bind fun r2 ⟨_,h2⟩=>?_
 refine (Zf h2 9).bind fun r3 ⟨_,h3⟩=>?_
 refine (Zbm h3 e 1 2 0).bind fun a0 ⟨g0,h4⟩=>?_
 refine (Zbm h4 4 1 0 0).bind fun a1 ⟨g1,h5⟩=>?_
 refine (Zbm h5 5 1 0 0).bind fun a2 ⟨g2,h6⟩=>?_
 have h3a:∀ x∈[a0.1,a1.1,a2.1],sm Zmv x:=fun x hx=>by
  simp only [List.mem_cons,List.not_mem_nil,or_false] at hx
  rcases hx with rfl | rfl | rfl
  ·exact g0
  ·exact g1
  ·exact g2
 split
 ·refine (Zbm h6 1 0 2 1).bind fun a3 ⟨g3,h7⟩=>?_
  refine .guard (by simp only [List.length_cons,List.length_nil];omega) (.ret ⟨⟨smS (by (try dsimp only);omega),trivial,hp _ _,smL (by (try dsimp only);simp only [List.length_append,List.length_cons,List.length_nil];omega) (Yi h3a g3),smI (by simp),trivial,trivial,trivial⟩,h7⟩)
 ·exact .ret ⟨⟨smS (by (try dsimp only);omega),trivial,hp _ _,smL (by (try dsimp only);simp only [List.length_cons,List.length_nil];omega) h3a,smI (by simp),trivial,trivial,trivial⟩,h6⟩
theorem ZkC {s:Za} (hs:Src s):Gets (Vf s) (fun r=>(sm Zc3 r.1∧(ZaF.Cells r.1).length=8)∧Src r.2):=by
 unfold Vf
 refine (Zar hs (by simp only [List.length_cons,List.length_nil];omega) (by simp)).bind fun r0 ⟨g0,h0⟩=>?_
 refine (Zar h0 (by simp only [List.length_cons,List.length_nil];omega) (by simp)).bind fun r1 ⟨g1,h1⟩=>?_
 refine (Zar h1 (by simp only [List.length_cons,List.length_nil];omega) (by simp)).bind fun r2 ⟨g2,h2⟩=>?_
 refine (Zar h2 (by simp only [List.length_cons,List.length_nil];omega) (by simp)).bind fun r3 ⟨g3,h3⟩=>?_
 refine (Zar h3 (by simp only [List.length_cons,List.length_nil];omega) (by simp)).bind fun r4 ⟨g4,h4⟩=>?_
 refine (Zde h4 (by simp only [List.length_cons,List.length_nil];omega) 2 2).bind fun r5 ⟨g5,h5⟩=>?_
 refine (Zde h5 (by simp only [List.length_cons,List.length_nil];omega) 2 3).bind fun r6 ⟨g6,h6⟩=>?_
 refine (Zde h6 (by simp only [List.length_cons,List.length_nil];omega) 3 2).bind fun r7 ⟨g7,h7⟩=>?_
 refine .ret ⟨⟨⟨smL (by (try dsimp only);simp only [List.length_cons,List.length_nil];omega) (fun x hx=>?_),trivial⟩,rfl⟩,h7⟩
 simp only [List.mem_cons,List.not_mem_nil,or_false] at hx
 rcases hx with rfl | rfl | rfl | rfl | rfl | rfl | rfl | rfl<;>assumption
/-
  Plain laws: what the draws of designs, wires and blocks yield.
-/
def Ziw (x:Zz):Prop:=(∃ r,Zz.Name x=117::r∧r.length≤2)∧(2≤(Zz.Zbh x).length∧(Zz.Zbh x).length≤4)
def ZnG (s:List UInt8):Prop:=∃ r,s=110::r∧r.length≤2
def Zkb (p:Zah):Prop:=(Zah.Name p).length≤2
structure Zll (d:Zp):Prop where
 n0:2≤(Zp.Instances d).length
 n1:(Zp.Instances d).length≤9
 inst:∀ x∈Zp.Instances d,Ziw x
 nl:(Zp.Zbh d).length=(Zp.Instances d).length+3
 net:∀ s∈Zp.Zbh d,ZnG s
 p0:4≤(Zp.Vk d).length
 p1:(Zp.Vk d).length≤5
 port:∀ p∈Zp.Vk d,Zkb p
theorem ZgJ {s:Za} (hs:Src s) {most:Int} (hm1:1≤most) (hm2:most≤8) (wild:Bool):Gets (Vh s most wild) (fun r=>Zll r.1∧Src r.2):=by
 unfold Vh
 have em:Wq (most-1)=most-1:=XD (by omega) (by omega)
 rw [em]
 refine (Zf hs _).bind fun r0 ⟨⟨a0,a1⟩,h0⟩=>?_
 have e:Wq (2+r0.1)=2+r0.1:=XD (by omega) (by omega)
 rw [e]
 have hN:2≤2+r0.1∧2+r0.1≤9:=by omega
 generalize 2+r0.1=N at hN
 refine Gets.loop (fun v=>0≤v.2.2.1∧(v.1.length:Int)+v.2.2.1=N∧v.2.1.length=v.1.length+3∧(∀ x∈v.1,Ziw x)∧(∀ x∈v.2.1,ZnG x)∧Src (v.2.2.2.1,v.2.2.2.2.1,v.2.2.2.2.2.1,())) (fun v=>v.2.2.1.toNat)
  ⟨by dsimp only;omega,by dsimp only [List.length_nil];omega,rfl,fun x hx=>(by cases hx),fun x hx=>?_,h0⟩ ?_
 ·simp only [List.nil_append,List.mem_cons,List.not_mem_nil,or_false] at hx
  rcases hx with rfl | rfl | rfl
  ·exact ⟨_,rfl,Nat.le_refl _⟩
  ·exact ⟨_,rfl,by simp⟩
  ·exact ⟨_,rfl,by simp⟩
 rintro ⟨ins,nets,n,c0,c1,c2,⟨⟩⟩ ⟨i1,i2,i3,i4,i5,i6⟩
 dsimp only at i1 i2 i3 i4 i5 i6
 show Gets (Xx wild ins nets n c0 c1 c2) _
 unfold Xx
 split
 ·rename_i hn
  refine (Zf i6 12).bind fun r ⟨⟨b0,b1⟩,h1⟩=>?_
  refine .at b0 (by simp only [List.length_cons,List.length_nil];omega) fun x hx _=>?_
  have hx7:0≤x∧x≤7:=by
   simp only [List.mem_cons,List.not_mem_nil,or_false] at hx
   omega
  refine (ZcZ (n:=(ins.length:Int)) (by omega) (by omega)).bind fun nm hnm=>?_
  refine .guard (by simp only [List.length_cons,List.length_nil];omega) ?_
  refine Gets.loop (fun v=>0≤v.1∧v.1≤3∧(v.2.2.2.2.1.length:Int)=v.1∧Src (v.2.1,v.2.2.1,v.2.2.2.1,())) (fun v=>(3-v.1).toNat) ⟨by dsimp only;omega,by dsimp only;omega,rfl,h1⟩ ?_
  rintro ⟨p,d0,d1,d2,l,⟨⟩⟩ ⟨j0,j1,j2,j3⟩
  dsimp only at j0 j1 j2 j3
  show Gets (Xv ins nets n x nm p d0 d1 d2 l) _
  unfold Xv
  refine .at hx7.1 (by simp only [List.length_cons,List.length_nil];omega) fun k hk _=>?_
  have hk4:2≤k∧k≤4:=by
   simp only [List.mem_cons,List.not_mem_nil,or_false] at hk
   omega
  have ek:Wq (k-1)=k-1:=XD (by omega) (by omega)
  have ep:Wq (p+1)=p+1:=XD (by omega) (by omega)
  have en:Wq (n-1)=n-1:=XD (by omega) (by omega)
  simp only [ek,ep,en]
  split
  ·rename_i hpk
   refine (Zf j3 _).bind fun r2 ⟨_,h2⟩=>?_
   refine (Zf h2 3).bind fun r3 ⟨_,h3⟩=>?_
   repeat' first
    | split
    | refine Gets.guard (by simp only [List.length_append,List.length_cons,List.length_nil];omega) ?_
    | exact .ret ⟨⟨by dsimp only;omega,by dsimp only;omega,by dsimp only;simp only [List.length_append,List.length_cons,List.length_nil];omega,h3⟩,by dsimp only;omega⟩
  ·refine .guard (by simp only [List.length_append,List.length_cons,List.length_nil];omega) ?_
   refine .guard (by simp only [List.length_append,List.length_cons,List.length_nil];omega) ?_
   refine (ZcZ (n:=(nets.length:Int)) (by omega) (by omega)).bind fun nn hnn=>?_
   refine .guard (by simp only [List.length_append,List.length_cons,List.length_nil];omega) ?_
   refine .guard (by simp only [List.length_append,List.length_cons,List.length_nil];omega) ?_
   refine .guard (by simp only [List.length_append,List.length_cons,List.length_nil];omega) ?_
   refine .ret ⟨⟨by dsimp only;omega,by dsimp only;simp only [List.length_append,List.length_cons,List.length_nil];omega,by dsimp only;simp only [List.length_append,List.length_cons,List.length_nil];omega,Yi i4 ⟨⟨nm,rfl,hnm⟩,?_⟩,Yi i5 ⟨nn,rfl,hnn⟩,j3⟩,by dsimp only;omega⟩
   show 2≤List.length ([]++l++[_])∧List.length ([]++l++[_])≤4
   simp only [List.length_append,List.length_cons,List.length_nil]
   omega
 ·rename_i hn
  refine Gets.loop (fun v=>0≤v.1∧v.1≤9∧v.2.2.2.2.1.length=ins.length∧(∀ x∈v.2.2.2.2.1,Ziw x)∧Src (v.2.1,v.2.2.1,v.2.2.2.1,())) (fun v=>(9-v.1).toNat) ⟨by dsimp only;omega,by dsimp only;omega,rfl,i4,i6⟩ ?_
  rintro ⟨p,d0,d1,d2,l,⟨⟩⟩ ⟨j0,j1,j2,j3,j4⟩
  dsimp only at j0 j1 j2 j3 j4
  show Gets (Xw wild nets p d0 d1 d2 l) _
  unfold Xw
  have ep:Wq (p+1)=p+1:=XD (by omega) (by omega)
  simp only [ep]
  split
  ·rename_i hp
   refine (Zf j4 4).bind fun r ⟨_,h1⟩=>?_
   split
   ·refine .at j0 hp fun x hx hxi=>?_
    have hxd:=j3 x hx
    have st:∀ v:Int,Gets ((Zc r.2 v).bind fun l01Next2=>(atI x.snd.snd.fst (0:Int)).bind fun x1=>some (.inl (p+1,l01Next2.snd.fst,l01Next2.snd.snd.fst,l01Next2.snd.snd.snd.fst,List.set l (Int.toNat p) (x.fst,x.snd.fst,List.set x.snd.snd.fst (Int.toNat (0:Int)) (Wq ((1:Int)+l01Next2.fst)),()),()):(Int×(List Int)×Int×Int×(List (List UInt8×Int×List Int×Unit))×Unit) ⊕ (((List Zz)×(List (List UInt8))×Int×(List Int)×Int×Int×Unit) ⊕ (Zp×Za))))
      (Rnd (fun v:Int×(List Int)×Int×Int×(List (List UInt8×Int×List Int×Unit))×Unit=>0≤v.1∧v.1≤9∧v.2.2.2.2.1.length=ins.length∧(∀ x∈v.2.2.2.2.1,Ziw x)∧Src (v.2.1,v.2.2.1,v.2.2.2.1,())) (fun v=>(9-v.1).toNat) (9-p).toNat
       (Rnd (fun v:(List Zz)×(List (List UInt8))×Int×(List Int)×Int×Int×Unit=>0≤v.2.2.1∧(v.1.length:Int)+v.2.2.1=N∧v.2.1.length=v.1.length+3∧(∀ x∈v.1,Ziw x)∧(∀ x∈v.2.1,ZnG x)∧Src (v.2.2.2.1,v.2.2.2.2.1,v.2.2.2.2.2.1,())) (fun v=>v.2.2.1.toNat) n.toNat (fun r=>Zll r.1∧Src r.2))):=fun v=>by
     refine (Zf h1 v).bind fun r2 ⟨_,h2⟩=>?_
     refine .at (by omega) (by have:=hxd.2.1;show (0:Int)<((Zz.Zbh x).length:Int);omega) fun _ _ _=>?_
     refine .ret ⟨⟨by dsimp only;omega,by dsimp only;omega,by dsimp only;rw [List.length_set];exact j2,Ze7 j3 ⟨hxd.1,?_⟩,h2⟩,by dsimp only;omega⟩
     show 2≤(List.set (Zz.Zbh x) _ _).length∧(List.set (Zz.Zbh x) _ _).length≤4
     rw [List.length_set]
     exact hxd.2
    repeat' first
     | exact st _
     | split
     | exact .ret ⟨⟨by dsimp only;omega,by dsimp only;omega,by dsimp only;rw [List.length_set];exact j2,Ze7 j3 hxd,h1⟩,by dsimp only;omega⟩
   ·exact .ret ⟨⟨by dsimp only;omega,by dsimp only;omega,j2,j3,h1⟩,by dsimp only;omega⟩
  ·refine .guard (by simp only [List.length_append,List.length_cons,List.length_nil];omega) ?_
   refine (Zf j4 2).bind fun r ⟨_,h1⟩=>?_
   have four:∀ a:Int,∀ p∈(([]:List (List UInt8×Int×Int×Unit))++[([(99:UInt8),(107:UInt8)],(1:Int),(0:Int),()),([(97:UInt8)],(1:Int),(1:Int),()),([(98:UInt8)],(1:Int),(2:Int),())]++[([(121:UInt8)],(2:Int),a,())]),Zkb p:=fun a p hp=>by
    simp only [List.nil_append,List.cons_append,List.mem_cons,List.not_mem_nil,or_false] at hp
    unfold Zkb
    rcases hp with rfl | rfl | rfl | rfl
    ·exact Nat.le_refl 2
    ·show 1≤2;omega
    ·show 1≤2;omega
    ·show 1≤2;omega
   split
   ·refine (Zf h1 _).bind fun r2 ⟨_,h2⟩=>?_
    refine .guard (by simp only [List.length_append,List.length_cons,List.length_nil];omega) ?_
    refine .ret ⟨⟨?_,?_,j3,?_,i5,?_,?_,Yi (four _) (show 1≤2 by omega)⟩,h2⟩
    ·show 2≤l.length;omega
    ·show l.length≤9;omega
    ·show nets.length=l.length+3;omega
    ·show 4≤List.length (_++_++_++_);simp only [List.length_append,List.length_cons,List.length_nil];omega
    ·show List.length (_++_++_++_)≤5;simp only [List.length_append,List.length_cons,List.length_nil];omega
   ·refine .ret ⟨⟨?_,?_,j3,?_,i5,?_,?_,four _⟩,h1⟩
    ·show 2≤l.length;omega
    ·show l.length≤9;omega
    ·show nets.length=l.length+3;omega
    ·show 4≤List.length (_++_++_);simp only [List.length_append,List.length_cons,List.length_nil];omega
    ·show List.length (_++_++_)≤5;simp only [List.length_append,List.length_cons,List.length_nil];omega
theorem Zll.few {d:Zp} (h:Zll d):Few d:=⟨by have:=h.n1;omega,by have:=h.p1;omega,fun x hx=>by have:=(h.inst x hx).2.2;omega⟩
theorem Zll.sm {d:Zp} (h:Zll d):sm ZdN d:=by
 have:=h.n1;have:=h.p1;have:=h.nl
 refine ⟨smL (by show (Zp.Instances d).length≤_;omega) (fun x hx=>?_),smL (by show (Zp.Zbh d).length≤_;omega) (fun x hx=>?_),smL (by show (Zp.Vk d).length≤_;omega) (fun x hx=>?_),trivial⟩
 ·obtain ⟨⟨r,e,hr⟩,h2⟩:=h.inst x hx
  refine ⟨smS ?_,trivial,smI ?_,trivial⟩
  ·show (Zz.Name x).length≤_
   rw [e,List.length_cons];omega
  ·show (Zz.Zbh x).length≤_
   omega
 ·obtain ⟨r,e,hr⟩:=h.net x hx
  refine smS ?_
  rw [e,List.length_cons];omega
 ·have:=h.port x hx
  unfold Zkb at this
  exact ⟨smS (by show (Zah.Name x).length≤_;omega),trivial,trivial,trivial⟩
def Ziz (w:QH):Prop:=(1≤(QH.Parent w).length∧(QH.Parent w).length≤4)∧(QH.Res w).length=(QH.Parent w).length∧(QH.Cap w).length=(QH.Parent w).length∧(QH.ZnH w).length≤100
theorem Ziz.sm {w:QH} (h:Ziz w):sm ZjY w:=by
 obtain ⟨h1,h2,h3,h4⟩:=h
 exact ⟨smI (by show (QH.Parent w).length≤_;omega),smI (by show (QH.Res w).length≤_;omega),smI (by show (QH.Cap w).length≤_;omega),smI (by show (QH.ZnH w).length≤_;omega),trivial⟩
theorem ZgS (l:List Int) (h:l.length≤1048576):XT l=some l:=by
 have h2:((([]:List Int).length+l.length)*8≤140737488355328):=by simp only [List.length_nil];omega
 unfold XT
 first
  | (rw [ZB h2,List.nil_append])
  | (rw [ZB h2];rfl)
  | rfl
theorem Zj6 {s:Za} (hs:Src s) {k:Int} (h0:0≤k) (h1:k≤100):Gets (Xi s k) (fun r=>Ziz r.1∧Src r.2):=by
 unfold Xi
 refine (Zf hs 6).bind fun r0 ⟨_,g0⟩=>?_
 have hl:Qi k r0.1=some ([(-1:Int)],[(0:Int)],[r0.1],List.replicate (Int.toNat k) (0:Int),()):=by
  unfold Qi
  rw [ZB (by omega),ZB (by omega),ZB (by omega),ZB (by omega)]
 rw [hl,Bq]
 refine (Zf g0 4).bind fun r1 ⟨⟨a,b⟩,g1⟩=>?_
 refine Gets.loop (fun v=>0≤v.1∧(v.2.2.2.2.1.length:Int)+v.1=1+r1.1∧1≤v.2.2.2.2.1.length∧v.2.2.2.2.2.1.length=v.2.2.2.2.1.length∧v.2.2.2.2.2.2.1.length=v.2.2.2.2.1.length∧v.2.2.2.2.2.2.2.1.length≤100∧Src (v.2.1,v.2.2.1,v.2.2.2.1,())) (fun v=>v.1.toNat)
  ⟨a,by show ((1:Nat):Int)+r1.1=1+r1.1;omega,Nat.le_refl _,rfl,rfl,by show (List.replicate (Int.toNat k) (0:Int)).length≤100;rw [List.length_replicate];omega,g1⟩ ?_
 rintro ⟨n,c0,c1,c2,l1,l2,l3,l4,⟨⟩⟩ ⟨i0,i1,i2,i3,i4,i5,i6⟩
 dsimp only at i0 i1 i2 i3 i4 i5 i6
 show Gets (Yx n c0 c1 c2 l1 l2 l3 l4) _
 unfold Yx
 have en:Wq (n-1)=n-1:=XD (by omega) (by omega)
 simp only [en]
 split
 ·rw [ZgS l1 (by omega),Bq,ZgS l2 (by omega),ZgS l3 (by omega)]
  refine (Zf i6 _).bind fun r2 ⟨_,h2⟩=>?_
  refine .guard (by simp only [List.length_append,List.length_cons,List.length_nil];omega) ?_
  rw [Bq]
  refine (Zf h2 _).bind fun r3 ⟨_,h3⟩=>?_
  refine .guard (by simp only [List.length_append,List.length_cons,List.length_nil];omega) ?_
  rw [Bq]
  refine (Zf h3 _).bind fun r4 ⟨_,h4⟩=>?_
  refine .guard (by simp only [List.length_append,List.length_cons,List.length_nil];omega) ?_
  refine .ret ⟨⟨by dsimp only;omega,?_,?_,?_,?_,i5,h4⟩,by dsimp only;omega⟩
  all_goals
   dsimp only
   simp only [List.length_append,List.length_cons,List.length_nil]
   omega
 ·refine Gets.loop (fun v=>0≤v.1∧v.1≤100∧v.2.2.2.2.1.length=l4.length∧Src (v.2.1,v.2.2.1,v.2.2.2.1,())) (fun v=>(100-v.1).toNat) ⟨by dsimp only;omega,by dsimp only;omega,rfl,i6⟩ ?_
  rintro ⟨p,d0,d1,d2,l,⟨⟩⟩ ⟨j0,j1,j2,j3⟩
  dsimp only at j0 j1 j2 j3
  show Gets (Yw l1 l2 l3 p d0 d1 d2 l) _
  unfold Yw
  have ep:Wq (p+1)=p+1:=XD (by omega) (by omega)
  simp only [ep]
  split
  ·rename_i hp
   refine (Zf j3 _).bind fun r2 ⟨_,h2⟩=>?_
   refine .at j0 hp fun _ _ _=>?_
   exact .ret ⟨⟨by dsimp only;omega,by dsimp only;omega,by dsimp only;rw [List.length_set];exact j2,h2⟩,by dsimp only;omega⟩
  ·refine .ret ⟨⟨⟨?_,?_⟩,i3,i4,?_⟩,j3⟩
   ·exact i2
   ·show l1.length≤4;omega
   ·show l.length≤100;omega
structure ZfM (b:Zv):Prop where
 lib:sm Zc3 (Zv.Library b)
 des:Zll (Zv.Design b)
 wl:(Zv.ZlA b).length=(Zp.Zbh (Zv.Design b)).length
 wires:∀ w∈Zv.ZlA b,Ziz w
theorem ZfM.sm {b:Zv} (h:ZfM b):sm ZjX b:=by
 have:=h.wl;have:=h.des.nl;have:=h.des.n1
 exact ⟨h.lib,h.des.sm,smL (by show (Zv.ZlA b).length≤_;omega) (fun w hw=>(h.wires w hw).sm),trivial⟩
theorem ZeD {s:Za} (hs:Src s) {most:Int} (hm1:1≤most) (hm2:most≤8) (wild:Bool):Gets (Qz s most wild) (fun r=>ZfM r.1∧Src r.2):=by
 unfold Qz
 refine (ZkC hs).bind fun r0 ⟨hl,h0⟩=>?_
 refine (ZgJ h0 hm1 hm2 wild).bind fun r1 ⟨hd,h1⟩=>?_
 have hnl:=hd.nl
 have hn1:=hd.n1
 refine Gets.loop (fun v=>0≤v.2.1∧v.2.1≤((Zp.Zbh r1.1).length:Int)∧(v.1.length:Int)=v.2.1∧(∀ w∈v.1,Ziz w)∧Src (v.2.2.1,v.2.2.2.1,v.2.2.2.2.1,())) (fun v=>(100-v.2.1).toNat)
  ⟨by dsimp only;omega,by dsimp only;omega,rfl,fun w hw=>(by cases hw),h1⟩ ?_
 rintro ⟨ws,n,c0,c1,c2,⟨⟩⟩ ⟨i0,i1,i2,i3,i4⟩
 dsimp only at i0 i1 i2 i3 i4
 show Gets (Xy r0 r1 ws n c0 c1 c2) _
 unfold Xy
 have en:Wq (n+1)=n+1:=XD (by omega) (by omega)
 simp only [en]
 split
 ·rename_i hn
  have hn:n<((Zp.Zbh r1.1).length:Int):=hn
  rw [ZcT r1.1 n hd.few,Bq]
  have hsl:(sinks r1.1 n).length≤78:=Nat.le_trans (Zgm n (places r1.1) 0) (Zck hd.few)
  refine (Zj6 i4 (k:=((sinks r1.1 n).length:Int)) (by omega) (by omega)).bind fun r ⟨hw,h2⟩=>?_
  refine .guard (by simp only [List.length_append,List.length_cons,List.length_nil];omega) (.ret ⟨⟨by dsimp only;omega,by dsimp only;omega,?_,Yi i3 hw,h2⟩,by dsimp only;omega⟩)
  dsimp only
  simp only [List.length_append,List.length_cons,List.length_nil]
  omega
 ·rename_i hn
  have hn:¬n<((Zp.Zbh r1.1).length:Int):=hn
  refine .ret ⟨⟨hl.1,hd,?_,i3⟩,i4⟩
  show ws.length=(Zp.Zbh r1.1).length
  omega
/-
  Plain laws: what the draws of clocks and setups yield.
-/
def Jg (c:Zb):Prop:=(Zb.Name c).length≤4
theorem Zc9 {s:Za} (hs:Src s):Gets (QB s) (fun r=>((1≤r.1.length∧r.1.length≤7)∧∀ c∈r.1,Jg c)∧Src r.2):=by
 unfold QB
 refine (Zf hs 5).bind fun r0 ⟨⟨a0,a1⟩,h0⟩=>?_
 have e:Wq (1+r0.1)=1+r0.1:=XD (by omega) (by omega)
 rw [e]
 refine Gets.loop (fun v=>0≤v.2.1∧(v.1.length:Int)+v.2.1=1+r0.1∧(∀ c∈v.1,Jg c)∧Src (v.2.2.1,v.2.2.2.1,v.2.2.2.2.1,())) (fun v=>v.2.1.toNat)
  ⟨by dsimp only;omega,by dsimp only [List.length_nil];omega,fun x hx=>(by cases hx),h0⟩ ?_
 rintro ⟨l,n,c0,c1,c2,⟨⟩⟩ ⟨i0,i1,i2,i3⟩
 dsimp only at i0 i1 i2 i3
 show Gets (XA l n c0 c1 c2) _
 unfold XA
 have en:Wq (n-1)=n-1:=XD (by omega) (by omega)
 simp only [en]
 split
 ·rename_i hn
  have nx:∀ (c:Zb) (t:Za),Jg c→Src t→Gets (some (.inl (l++[c],n-1,t.fst,t.snd.fst,t.snd.snd.fst,()):((List Zb)×Int×(List Int)×Int×Int×Unit) ⊕ ((List Zb)×Za)))
    (Rnd (fun v:(List Zb)×Int×(List Int)×Int×Int×Unit=>0≤v.2.1∧(v.1.length:Int)+v.2.1=1+r0.1∧(∀ c∈v.1,Jg c)∧Src (v.2.2.1,v.2.2.2.1,v.2.2.2.2.1,())) (fun v=>v.2.1.toNat) n.toNat (fun r=>((1≤r.1.length∧r.1.length≤7)∧∀ c∈r.1,Jg c)∧Src r.2)):=fun c t hc ht =>
   .ret ⟨⟨by dsimp only;omega,by dsimp only;simp only [List.length_append,List.length_cons,List.length_nil];omega,Yi i2 hc,ht⟩,by dsimp only;omega⟩
  refine (Zf i3 30).bind fun r1 ⟨_,h1⟩=>?_
  refine (ZcZ (n:=(l.length:Int)) (by omega) (by omega)).bind fun nm hnm=>?_
  have hcl:∀ x,Jg (([(99:UInt8)]++nm,x):Zb):=fun x=>by
   show ([(99:UInt8)]++nm).length≤4
   simp only [List.length_append,List.length_cons,List.length_nil]
   omega
  refine .guard (by simp only [List.length_cons,List.length_nil];omega) ?_
  refine (Zf h1 20).bind fun r2 ⟨_,h2⟩=>?_
  refine (Zf h2 20).bind fun r3 ⟨_,h3⟩=>?_
  refine (Zf h3 8).bind fun r4 ⟨_,h4⟩=>?_
  have per:∀ x∈([(10:Int),(12:Int),(20:Int),(30:Int),(100:Int),(7:Int),(2:Int)]),x≠0:=fun x hx=>by
   simp only [List.mem_cons,List.not_mem_nil,or_false] at hx
   omega
  split
  ·refine (Zf h4 7).bind fun r5 ⟨⟨b0,b1⟩,h5⟩=>?_
   refine .at b0 (by simp only [List.length_cons,List.length_nil];omega) fun x hx _=>?_
   refine (Zf h5 _).bind fun r6 ⟨_,h6⟩=>?_
   refine (Zf h6 _).bind fun r7 ⟨_,h7⟩=>?_
   refine .guard (per x hx) ?_
   refine .guard (by simp only [List.length_cons,List.length_nil];omega) ?_
   exact nx _ _ (hcl _) h7
  ·refine (Zf h4 3).bind fun r5 ⟨_,h5⟩=>?_
   split
   ·refine (Zf h5 7).bind fun r6 ⟨⟨b0,b1⟩,h6⟩=>?_
    refine .at b0 (by simp only [List.length_cons,List.length_nil];omega) fun x hx _=>?_
    refine (Zf h6 _).bind fun r7 ⟨_,h7⟩=>?_
    refine (Zf h7 _).bind fun r8 ⟨_,h8⟩=>?_
    refine .guard (per x hx) ?_
    refine .guard (by simp only [List.length_cons,List.length_nil];omega) ?_
    exact nx _ _ (hcl _) h8
   ·refine (Zf h5 _).bind fun r6 ⟨_,h6⟩=>?_
    refine (Zf h6 _).bind fun r7 ⟨_,h7⟩=>?_
    refine (Zf h7 _).bind fun r8 ⟨_,h8⟩=>?_
    refine .guard (by simp only [List.length_cons,List.length_nil];omega) ?_
    exact nx _ _ (hcl _) h8
 ·rename_i hn
  refine (Zf i3 _).bind fun r1 ⟨⟨b0,b1⟩,h1⟩=>?_
  refine (Zf h1 30).bind fun r2 ⟨_,h2⟩=>?_
  have hl:1≤l.length∧l.length≤5:=by omega
  have fs:∀ (i:Nat) (c:Zb) (t:Za),Jg c→Src t→Gets (some (.inr (List.set l i c,t):((List Zb)×Int×(List Int)×Int×Int×Unit) ⊕ ((List Zb)×Za)))
    (Rnd (fun v:(List Zb)×Int×(List Int)×Int×Int×Unit=>0≤v.2.1∧(v.1.length:Int)+v.2.1=1+r0.1∧(∀ c∈v.1,Jg c)∧Src (v.2.2.1,v.2.2.2.1,v.2.2.2.2.1,())) (fun v=>v.2.1.toNat) n.toNat (fun r=>((1≤r.1.length∧r.1.length≤7)∧∀ c∈r.1,Jg c)∧Src r.2)):=fun i c t hc ht =>
   .ret (show ((1≤(List.set l i c).length∧(List.set l i c).length≤7)∧∀ c'∈List.set l i c,Jg c')∧Src t from ⟨⟨by rw [List.length_set];omega,Ze7 i2 hc⟩,ht⟩)
  have hb1:r1.1<(l.length:Int):=by omega
  have nm:∀ x∈l,(Zb.Name x).length≤4:=i2
  split
  ·refine (Zf h2 2).bind fun r3 ⟨_,h3⟩=>?_
   exact .at b0 hb1 fun x hx _=>fs _ _ _ (nm x hx) h3
  split
  ·exact .at b0 hb1 fun x hx _=>fs _ _ _ (nm x hx) h2
  split
  ·exact .at (by omega) (by omega) fun x hx _=>.at b0 hb1 fun y _ _=>fs _ _ _ (nm x hx) h2
  split
  ·exact .at b0 hb1 fun x hx _=>fs _ _ _ (nm x hx) h2
  split
  ·exact .at b0 hb1 fun x hx _=>fs _ _ _ (nm x hx) h2
  split
  ·refine (Zf h2 2).bind fun r3 ⟨_,h3⟩=>?_
   exact .at (by omega) (by omega) fun x hx _=>fs _ _ _ (nm x hx) h3
  split
  rotate_left
  ·exact .ret (show ((1≤l.length∧l.length≤7)∧∀ c'∈l,Jg c')∧Src r2.2 from ⟨⟨by omega,i2⟩,h2⟩)
  refine Gets.loop (fun v=>v.1.length≤7∧1≤v.1.length∧∀ c∈v.1,Jg c) (fun v=>7-v.1.length) ⟨by dsimp only;omega,hl.1,i2⟩ ?_
  rintro ⟨l',⟨⟩⟩ ⟨j0,j1,j2⟩
  dsimp only at j0 j1 j2
  show Gets (Xz r2 l') _
  unfold Xz
  split
  ·refine .at (by omega) (by omega) fun x _ _=>?_
   refine (ZcZ (n:=(l'.length:Int)) (by omega) (by omega)).bind fun nm hnm=>?_
   refine .guard (by simp only [List.length_cons,List.length_nil];omega) ?_
   refine .guard (by simp only [List.length_cons,List.length_nil];omega) ?_
   refine .ret ⟨⟨?_,?_,Yi j2 ?_⟩,?_⟩
   ·dsimp only;simp only [List.length_append,List.length_cons,List.length_nil];omega
   ·dsimp only;simp only [List.length_append,List.length_cons,List.length_nil];omega
   ·show ([(120:UInt8)]++nm).length≤4
    simp only [List.length_append,List.length_cons,List.length_nil]
    omega
   ·dsimp only;simp only [List.length_append,List.length_cons,List.length_nil];omega
  ·exact .ret (show ((1≤l'.length∧l'.length≤7)∧∀ c'∈l',Jg c')∧Src r2.2 from ⟨⟨⟨j1,j0⟩,j2⟩,h2⟩)
theorem Zjy {l:List Zb} (h:∀ c∈l,Jg c):ZbH l:=fun c hc=>by
 have:=h c hc
 unfold Jg at this
 omega
def ZdV (e:Zo):Prop:=(Zo.From e).length≤1∧(Zo.Through e).length≤1∧(Zo.To e).length≤1
structure ZoF (x:Zw):Prop where
 c0:1≤(Zw.XP x).length
 c1:(Zw.XP x).length≤7
 cn:∀ c∈Zw.XP x,Jg c
 i1:(Zw.ZeA x).length≤100
 o1:(Zw.ZgD x).length≤100
 e1:(Zw.Exceptions x).length≤100
 ee:∀ e∈Zw.Exceptions x,ZdV e
 k0:1≤(Zw.ZbX x).length
 k1:(Zw.ZbX x).length≤2
 kn:∀ c∈Zw.ZbX x,(Qj.Name c).length≤4
abbrev ZfP (r:Zv×Zw×Za):Prop:=ZfM r.1∧ZoF r.2.1∧Src r.2.2
theorem VT:∀ c∈([([(116:UInt8),(121:UInt8),(112:UInt8)],(1000:Int),(1000:Int),(1000:Int),(1000:Int),())]:List Qj),(Qj.Name c).length≤4:=fun c hc=>by
 rw [List.mem_singleton] at hc
 rw [hc]
 show 3≤4
 omega
abbrev Zis:=(List Zo)×Int×(List Int)×Int×Int×Unit
abbrev Zez:=(List Zi)×(List Zi)×Int×(List Int)×Int×Int×Unit
abbrev ZbW:=Int×(List Int)×Int×Int×(List Zb)×Unit
theorem Zi1 {D:Zv×Za} (hD:ZfM D.1) {P:List Zk} {cs:List Zb} (hc0:1≤cs.length) (hc1:cs.length≤7) (hcn:∀ c∈cs,Jg c) {ins outs:List Zi} (hi:ins.length≤100) (ho:outs.length≤100)
  {n:Int} (n0:0≤n) (n1:n≤3) {s:Za} (hs:Src s) {Q:Zez ⊕ (ZbW ⊕ (Zv×Zw×Za))→Prop} (hQ:∀ r,ZfP r→Q (.inr (.inr r))) :
  Gets (ZA (fun v=>Z8 D P cs ins outs v.1 v.2.1 v.2.2.1 v.2.2.2.1 v.2.2.2.2.1) (([]:List Zo),n,s.fst,s.snd.fst,s.snd.snd.fst,())) Q:=by
 refine Gets.loop (fun v:Zis=>0≤v.2.1∧v.2.1≤3∧(v.1.length:Int)+v.2.1≤3∧(∀ e∈v.1,ZdV e)∧Src (v.2.2.1,v.2.2.2.1,v.2.2.2.2.1,())) (fun v=>v.2.1.toNat) ⟨n0,n1,by dsimp only [List.length_nil];omega,fun x hx=>(by cases hx),hs⟩ ?_
 rintro ⟨l,k,c0,c1,c2,⟨⟩⟩ ⟨i0,i1,i2,i3,i4⟩
 dsimp only at i0 i1 i2 i3 i4
 show Gets (Z8 D P cs ins outs l k c0 c1 c2) _
 unfold Z8
 have en:Wq (k-1)=k-1:=XD (by omega) (by omega)
 simp only [en]
 split
 ·have nx:∀ (e:Zo) (t:Za),ZdV e→Src t→Gets (some (.inl (l++[e],k-1,t.fst,t.snd.fst,t.snd.snd.fst,()):Zis ⊕ (Zez ⊕ (ZbW ⊕ (Zv×Zw×Za)))))
    (Rnd (fun v:Zis=>0≤v.2.1∧v.2.1≤3∧(v.1.length:Int)+v.2.1≤3∧(∀ e∈v.1,ZdV e)∧Src (v.2.2.1,v.2.2.2.1,v.2.2.2.2.1,())) (fun v=>v.2.1.toNat) k.toNat Q):=fun e t he ht =>
   .ret ⟨⟨by dsimp only;omega,by dsimp only;omega,by dsimp only;simp only [List.length_append,List.length_cons,List.length_nil];omega,Yi i3 he,ht⟩,by dsimp only;omega⟩
  have d0:∀ a b:Int,ZdV ((a,b,([]:List Int),([]:List Int),([]:List Int),()):Zo):=fun a b=>⟨Nat.zero_le _,Nat.zero_le _,Nat.zero_le _⟩
  have d1:∀ a b c:Int,ZdV ((a,b,([]:List Int),([]:List Int),[c],()):Zo):=fun a b c=>⟨Nat.zero_le _,Nat.zero_le _,Nat.le_refl _⟩
  repeat' first
   | exact nx _ _ (d0 _ _) (by assumption)
   | exact nx _ _ (d1 _ _ _) (by assumption)
   | split
   | refine Gets.guard (by simp only [List.length_append,List.length_cons,List.length_nil];omega) ?_
   | refine (Zf (by assumption) _).bind fun _ ⟨_,_⟩=>?_
 ·refine (Zf i4 2).bind fun r ⟨_,h1⟩=>?_
  have hl:l.length≤100:=by omega
  split
  ·refine .ret (hQ _ ⟨hD,⟨hc0,hc1,hcn,hi,ho,hl,i3,?_,?_,Yi VT ?_⟩,h1⟩)
   ·show 1≤([_]++[_]).length;simp
   ·show ([_]++[_]).length≤2;simp
   ·show 4≤4;omega
  ·exact .ret (hQ _ ⟨hD,⟨hc0,hc1,hcn,hi,ho,hl,i3,Nat.le_refl _,by show 1≤2;omega,VT⟩,h1⟩)
theorem Zi5 {D:Zv×Za} (hD:ZfM D.1) {P:List Zk} (hP:P.length≤78) (hP2:(Zp.Vk (Zv.Design D.1)).length≤P.length) {A:Int×Za} {cs:List Zb} (hc0:1≤cs.length) (hc1:cs.length≤7) (hcn:∀ c∈cs,Jg c)
  {s:Za} (hs:Src s) {Q:ZbW ⊕ (Zv×Zw×Za)→Prop} (hQ:∀ r,ZfP r→Q (.inr r)) :
  Gets (ZA (fun v=>Z9 D P A cs v.1 v.2.1 v.2.2.1 v.2.2.2.1 v.2.2.2.2.1 v.2.2.2.2.2.1) (([]:List Zi),([]:List Zi),Wq ((P.length:Int)-((Zp.Vk (Zv.Design D.1)).length:Int)),s.fst,s.snd.fst,s.snd.snd.fst,())) Q:=by
 rw [XD (n:=(P.length:Int)-((Zp.Vk (Zv.Design D.1)).length:Int)) (by omega) (by omega)]
 refine Gets.loop (fun v:Zez=>0≤v.2.2.1∧v.2.2.1≤(P.length:Int)∧(v.1.length:Int)≤v.2.2.1∧(v.2.1.length:Int)≤v.2.2.1∧Src (v.2.2.2.1,v.2.2.2.2.1,v.2.2.2.2.2.1,())) (fun v=>(100-v.2.2.1).toNat)
  ⟨by dsimp only;omega,by dsimp only;omega,by dsimp only [List.length_nil];omega,by dsimp only [List.length_nil];omega,hs⟩ ?_
 rintro ⟨ins,outs,p,c0,c1,c2,⟨⟩⟩ ⟨i0,i1,i2,i3,i4⟩
 dsimp only at i0 i1 i2 i3 i4
 show Gets (Z9 D P A cs ins outs p c0 c1 c2) _
 unfold Z9
 have en:Wq (p+1)=p+1:=XD (by omega) (by omega)
 simp only [en]
 split
 ·rename_i hp
  have nx:∀ (a b:List Zi) (t:Za),(a.length:Int)≤p+1→(b.length:Int)≤p+1→Src t→Gets (some (.inl (a,b,p+1,t.fst,t.snd.fst,t.snd.snd.fst,()):Zez ⊕ (ZbW ⊕ (Zv×Zw×Za))))
    (Rnd (fun v:Zez=>0≤v.2.2.1∧v.2.2.1≤(P.length:Int)∧(v.1.length:Int)≤v.2.2.1∧(v.2.1.length:Int)≤v.2.2.1∧Src (v.2.2.2.1,v.2.2.2.2.1,v.2.2.2.2.2.1,())) (fun v=>(100-v.2.2.1).toNat) (100-p).toNat Q):=fun a b t ha hb ht =>
   .ret ⟨⟨by dsimp only;omega,by dsimp only;omega,ha,hb,ht⟩,by dsimp only;omega⟩
  refine (Zf i4 60).bind fun r1 ⟨_,h1⟩=>?_
  refine (Zf h1 _).bind fun r2 ⟨_,h2⟩=>?_
  refine (Zf h2 30).bind fun r3 ⟨_,h3⟩=>?_
  refine .at i0 hp fun x _ _=>?_
  repeat' first
   | exact nx _ _ _ (by omega) (by omega) (by assumption)
   | exact nx _ _ _ (by first | omega | (simp only [List.length_append,List.length_cons,List.length_nil];omega)) (by first | omega | (simp only [List.length_append,List.length_cons,List.length_nil];omega)) (by assumption)
   | split
   | refine Gets.guard (by simp only [List.length_append,List.length_cons,List.length_nil];omega) ?_
   | refine (Zf (by assumption) _).bind fun _ ⟨_,_⟩=>?_
 ·refine (Zf i4 3).bind fun r ⟨⟨a,b⟩,h1⟩=>?_
  exact Zi1 hD hc0 hc1 hcn (by omega) (by omega) a (by omega) h1 (fun r hr=>hQ r hr)
theorem ZiI {D:Zv×Za} (hD:ZfM D.1) {P:List Zk} (hP:P.length≤78) (hP2:(Zp.Vk (Zv.Design D.1)).length≤P.length) {A:Int×Za}
  {s:Za} (hs:Src s) :
  Gets (ZA (fun v=>ZX D P A v.1 v.2.1 v.2.2.1 v.2.2.2.1 v.2.2.2.2.1) ((0:Int),s.fst,s.snd.fst,s.snd.snd.fst,([]:List Zb),())) ZfP:=by
 refine Gets.loop (fun v:ZbW=>0≤v.1∧v.1≤7∧(v.2.2.2.2.1.length:Int)=v.1∧(∀ c∈v.2.2.2.2.1,Jg c)∧Src (v.2.1,v.2.2.1,v.2.2.2.1,())) (fun v=>(7-v.1).toNat)
  ⟨by dsimp only;omega,by dsimp only;omega,rfl,fun x hx=>(by cases hx),hs⟩ ?_
 rintro ⟨p,c0,c1,c2,cs,⟨⟩⟩ ⟨i0,i1,i2,i3,i4⟩
 dsimp only at i0 i1 i2 i3 i4
 show Gets (ZX D P A p c0 c1 c2 cs) _
 unfold ZX
 have en:Wq (p+1)=p+1:=XD (by omega) (by omega)
 simp only [en]
 split
 ·rename_i hp
  have hp7:p<7:=by simp only [List.length_cons,List.length_nil] at hp;omega
  refine .at i0 hp fun x hx _=>?_
  have hxn:Jg x:=by
   rw [List.mem_singleton] at hx
   rw [hx]
   show 4≤4
   omega
  have nx:∀ (c:Zb) (t:Za),Jg c→Src t→Gets (some (.inl (p+1,t.fst,t.snd.fst,t.snd.snd.fst,([]:List Zb)++cs++[c],()):ZbW ⊕ (Zv×Zw×Za)))
    (Rnd (fun v:ZbW=>0≤v.1∧v.1≤7∧(v.2.2.2.2.1.length:Int)=v.1∧(∀ c∈v.2.2.2.2.1,Jg c)∧Src (v.2.1,v.2.2.1,v.2.2.2.1,())) (fun v=>(7-v.1).toNat) (7-p).toNat ZfP):=fun c t hc ht =>
   .ret ⟨⟨by dsimp only;omega,by dsimp only;omega,by dsimp only;simp only [List.length_append,List.length_cons,List.length_nil];omega,Yi (by rw [List.nil_append];exact i3) hc,ht⟩,by dsimp only;omega⟩
  split
  ·refine (Zf i4 _).bind fun r ⟨_,h1⟩=>?_
   refine .guard (by simp only [List.length_append,List.length_cons,List.length_nil];omega) ?_
   refine .guard (by simp only [List.length_append,List.length_cons,List.length_nil];omega) ?_
   exact nx _ _ hxn h1
  ·refine .guard (by simp only [List.length_append,List.length_cons,List.length_nil];omega) ?_
   refine .guard (by simp only [List.length_append,List.length_cons,List.length_nil];omega) ?_
   exact nx _ (c0,c1,c2,()) hxn i4
 ·rename_i hp
  simp only [List.length_cons,List.length_nil] at hp
  exact Zi5 hD hP hP2 (by omega) (by omega) i3 (s:=(c0,c1,c2,())) i4 (fun r hr=>hr)
theorem Zi2 {D:Zv×Za} (hD:ZfM D.1) {P:List Zk} {cs:List Zb} (hc0:1≤cs.length) (hc1:cs.length≤7) (hcn:∀ c∈cs,Jg c) {ins outs:List Zi} (hi:ins.length≤100) (ho:outs.length≤100)
  {n:Int} (n0:0≤n) (n1:n≤3) {s:Za} (hs:Src s) {Q:Zez ⊕ (ZbW ⊕ (Zv×Zw×Za))→Prop} (hQ:∀ r,ZfP r→Q (.inr (.inr r))) :
  Gets (ZA (fun v=>YO D P cs ins outs v.1 v.2.1 v.2.2.1 v.2.2.2.1 v.2.2.2.2.1) (([]:List Zo),n,s.fst,s.snd.fst,s.snd.snd.fst,())) Q:=by
 refine Gets.loop (fun v:Zis=>0≤v.2.1∧v.2.1≤3∧(v.1.length:Int)+v.2.1≤3∧(∀ e∈v.1,ZdV e)∧Src (v.2.2.1,v.2.2.2.1,v.2.2.2.2.1,())) (fun v=>v.2.1.toNat) ⟨n0,n1,by dsimp only [List.length_nil];omega,fun x hx=>(by cases hx),hs⟩ ?_
 rintro ⟨l,k,c0,c1,c2,⟨⟩⟩ ⟨i0,i1,i2,i3,i4⟩
 dsimp only at i0 i1 i2 i3 i4
 show Gets (YO D P cs ins outs l k c0 c1 c2) _
 unfold YO
 have en:Wq (k-1)=k-1:=XD (by omega) (by omega)
 simp only [en]
 split
 ·have nx:∀ (e:Zo) (t:Za),ZdV e→Src t→Gets (some (.inl (l++[e],k-1,t.fst,t.snd.fst,t.snd.snd.fst,()):Zis ⊕ (Zez ⊕ (ZbW ⊕ (Zv×Zw×Za)))))
    (Rnd (fun v:Zis=>0≤v.2.1∧v.2.1≤3∧(v.1.length:Int)+v.2.1≤3∧(∀ e∈v.1,ZdV e)∧Src (v.2.2.1,v.2.2.2.1,v.2.2.2.2.1,())) (fun v=>v.2.1.toNat) k.toNat Q):=fun e t he ht =>
   .ret ⟨⟨by dsimp only;omega,by dsimp only;omega,by dsimp only;simp only [List.length_append,List.length_cons,List.length_nil];omega,Yi i3 he,ht⟩,by dsimp only;omega⟩
  have d0:∀ a b:Int,ZdV ((a,b,([]:List Int),([]:List Int),([]:List Int),()):Zo):=fun a b=>⟨Nat.zero_le _,Nat.zero_le _,Nat.zero_le _⟩
  have d1:∀ a b c:Int,ZdV ((a,b,([]:List Int),([]:List Int),[c],()):Zo):=fun a b c=>⟨Nat.zero_le _,Nat.zero_le _,Nat.le_refl _⟩
  repeat' first
   | exact nx _ _ (d0 _ _) (by assumption)
   | exact nx _ _ (d1 _ _ _) (by assumption)
   | split
   | refine Gets.guard (by simp only [List.length_append,List.length_cons,List.length_nil];omega) ?_
   | refine (Zf (by assumption) _).bind fun _ ⟨_,_⟩=>?_
 ·refine (Zf i4 2).bind fun r ⟨_,h1⟩=>?_
  have hl:l.length≤100:=by omega
  split
  ·refine .ret (hQ _ ⟨hD,⟨hc0,hc1,hcn,hi,ho,hl,i3,?_,?_,Yi VT ?_⟩,h1⟩)
   ·show 1≤([_]++[_]).length;simp
   ·show ([_]++[_]).length≤2;simp
   ·show 4≤4;omega
  ·exact .ret (hQ _ ⟨hD,⟨hc0,hc1,hcn,hi,ho,hl,i3,Nat.le_refl _,by show 1≤2;omega,VT⟩,h1⟩)
theorem Zi6 {D:Zv×Za} (hD:ZfM D.1) {P:List Zk} (hP:P.length≤78) (hP2:(Zp.Vk (Zv.Design D.1)).length≤P.length) {A:List Zb×Za} {cs:List Zb} (hc0:1≤cs.length) (hc1:cs.length≤7) (hcn:∀ c∈cs,Jg c)
  {s:Za} (hs:Src s) {Q:ZbW ⊕ (Zv×Zw×Za)→Prop} (hQ:∀ r,ZfP r→Q (.inr r)) :
  Gets (ZA (fun v=>YP D P A cs v.1 v.2.1 v.2.2.1 v.2.2.2.1 v.2.2.2.2.1 v.2.2.2.2.2.1) (([]:List Zi),([]:List Zi),Wq ((P.length:Int)-((Zp.Vk (Zv.Design D.1)).length:Int)),s.fst,s.snd.fst,s.snd.snd.fst,())) Q:=by
 rw [XD (n:=(P.length:Int)-((Zp.Vk (Zv.Design D.1)).length:Int)) (by omega) (by omega)]
 refine Gets.loop (fun v:Zez=>0≤v.2.2.1∧v.2.2.1≤(P.length:Int)∧(v.1.length:Int)≤v.2.2.1∧(v.2.1.length:Int)≤v.2.2.1∧Src (v.2.2.2.1,v.2.2.2.2.1,v.2.2.2.2.2.1,())) (fun v=>(100-v.2.2.1).toNat)
  ⟨by dsimp only;omega,by dsimp only;omega,by dsimp only [List.length_nil];omega,by dsimp only [List.length_nil];omega,hs⟩ ?_
 rintro ⟨ins,outs,p,c0,c1,c2,⟨⟩⟩ ⟨i0,i1,i2,i3,i4⟩
 dsimp only at i0 i1 i2 i3 i4
 show Gets (YP D P A cs ins outs p c0 c1 c2) _
 unfold YP
 have en:Wq (p+1)=p+1:=XD (by omega) (by omega)
 simp only [en]
 split
 ·rename_i hp
  have nx:∀ (a b:List Zi) (t:Za),(a.length:Int)≤p+1→(b.length:Int)≤p+1→Src t→Gets (some (.inl (a,b,p+1,t.fst,t.snd.fst,t.snd.snd.fst,()):Zez ⊕ (ZbW ⊕ (Zv×Zw×Za))))
    (Rnd (fun v:Zez=>0≤v.2.2.1∧v.2.2.1≤(P.length:Int)∧(v.1.length:Int)≤v.2.2.1∧(v.2.1.length:Int)≤v.2.2.1∧Src (v.2.2.2.1,v.2.2.2.2.1,v.2.2.2.2.2.1,())) (fun v=>(100-v.2.2.1).toNat) (100-p).toNat Q):=fun a b t ha hb ht =>
   .ret ⟨⟨by dsimp only;omega,by dsimp only;omega,ha,hb,ht⟩,by dsimp only;omega⟩
  refine (Zf i4 60).bind fun r1 ⟨_,h1⟩=>?_
  refine (Zf h1 _).bind fun r2 ⟨_,h2⟩=>?_
  refine (Zf h2 30).bind fun r3 ⟨_,h3⟩=>?_
  refine .at i0 hp fun x _ _=>?_
  repeat' first
   | exact nx _ _ _ (by omega) (by omega) (by assumption)
   | exact nx _ _ _ (by first | omega | (simp only [List.length_append,List.length_cons,List.length_nil];omega)) (by first | omega | (simp only [List.length_append,List.length_cons,List.length_nil];omega)) (by assumption)
   | split
   | refine Gets.guard (by simp only [List.length_append,List.length_cons,List.length_nil];omega) ?_
   | refine (Zf (by assumption) _).bind fun _ ⟨_,_⟩=>?_
 ·refine (Zf i4 3).bind fun r ⟨⟨a,b⟩,h1⟩=>?_
  exact Zi2 hD hc0 hc1 hcn (by omega) (by omega) a (by omega) h1 (fun r hr=>hQ r hr)
theorem ZiJ {D:Zv×Za} (hD:ZfM D.1) {P:List Zk} (hP:P.length≤78) (hP2:(Zp.Vk (Zv.Design D.1)).length≤P.length) {A:List Zb×Za} (hA:1≤A.1.length∧A.1.length≤7) (hAn:∀ c∈A.1,Jg c)
  {s:Za} (hs:Src s) :
  Gets (ZA (fun v=>YQ D P A v.1 v.2.1 v.2.2.1 v.2.2.2.1 v.2.2.2.2.1) ((0:Int),s.fst,s.snd.fst,s.snd.snd.fst,([]:List Zb),())) ZfP:=by
 refine Gets.loop (fun v:ZbW=>0≤v.1∧v.1≤7∧(v.2.2.2.2.1.length:Int)=v.1∧(∀ c∈v.2.2.2.2.1,Jg c)∧Src (v.2.1,v.2.2.1,v.2.2.2.1,())) (fun v=>(7-v.1).toNat)
  ⟨by dsimp only;omega,by dsimp only;omega,rfl,fun x hx=>(by cases hx),hs⟩ ?_
 rintro ⟨p,c0,c1,c2,cs,⟨⟩⟩ ⟨i0,i1,i2,i3,i4⟩
 dsimp only at i0 i1 i2 i3 i4
 show Gets (YQ D P A p c0 c1 c2 cs) _
 unfold YQ
 have en:Wq (p+1)=p+1:=XD (by omega) (by omega)
 simp only [en]
 split
 ·rename_i hp
  have hp7:p<7:=by omega
  refine .at i0 hp fun x hx _=>?_
  have hxn:Jg x:=hAn x hx
  have nx:∀ (c:Zb) (t:Za),Jg c→Src t→Gets (some (.inl (p+1,t.fst,t.snd.fst,t.snd.snd.fst,([]:List Zb)++cs++[c],()):ZbW ⊕ (Zv×Zw×Za)))
    (Rnd (fun v:ZbW=>0≤v.1∧v.1≤7∧(v.2.2.2.2.1.length:Int)=v.1∧(∀ c∈v.2.2.2.2.1,Jg c)∧Src (v.2.1,v.2.2.1,v.2.2.2.1,())) (fun v=>(7-v.1).toNat) (7-p).toNat ZfP):=fun c t hc ht =>
   .ret ⟨⟨by dsimp only;omega,by dsimp only;omega,by dsimp only;simp only [List.length_append,List.length_cons,List.length_nil];omega,Yi (by rw [List.nil_append];exact i3) hc,ht⟩,by dsimp only;omega⟩
  split
  ·refine (Zf i4 _).bind fun r ⟨_,h1⟩=>?_
   refine .guard (by simp only [List.length_append,List.length_cons,List.length_nil];omega) ?_
   refine .guard (by simp only [List.length_append,List.length_cons,List.length_nil];omega) ?_
   exact nx _ _ hxn h1
  ·refine .guard (by simp only [List.length_append,List.length_cons,List.length_nil];omega) ?_
   refine .guard (by simp only [List.length_append,List.length_cons,List.length_nil];omega) ?_
   exact nx _ (c0,c1,c2,()) hxn i4
 ·rename_i hp
  exact Zi6 hD hP hP2 (by omega) (by omega) i3 (s:=(c0,c1,c2,())) i4 (fun r hr=>hr)
theorem Zi3 {D:Zv×Za} (hD:ZfM D.1) {P:List Zk} {cs:List Zb} (hc0:1≤cs.length) (hc1:cs.length≤7) (hcn:∀ c∈cs,Jg c) {ins outs:List Zi} (hi:ins.length≤100) (ho:outs.length≤100)
  {n:Int} (n0:0≤n) (n1:n≤3) {s:Za} (hs:Src s) {Q:Zez ⊕ (ZbW ⊕ (Zv×Zw×Za))→Prop} (hQ:∀ r,ZfP r→Q (.inr (.inr r))) :
  Gets (ZA (fun v=>Ya D P cs ins outs v.1 v.2.1 v.2.2.1 v.2.2.2.1 v.2.2.2.2.1) (([]:List Zo),n,s.fst,s.snd.fst,s.snd.snd.fst,())) Q:=by
 refine Gets.loop (fun v:Zis=>0≤v.2.1∧v.2.1≤3∧(v.1.length:Int)+v.2.1≤3∧(∀ e∈v.1,ZdV e)∧Src (v.2.2.1,v.2.2.2.1,v.2.2.2.2.1,())) (fun v=>v.2.1.toNat) ⟨n0,n1,by dsimp only [List.length_nil];omega,fun x hx=>(by cases hx),hs⟩ ?_
 rintro ⟨l,k,c0,c1,c2,⟨⟩⟩ ⟨i0,i1,i2,i3,i4⟩
 dsimp only at i0 i1 i2 i3 i4
 show Gets (Ya D P cs ins outs l k c0 c1 c2) _
 unfold Ya
 have en:Wq (k-1)=k-1:=XD (by omega) (by omega)
 simp only [en]
 split
 ·have nx:∀ (e:Zo) (t:Za),ZdV e→Src t→Gets (some (.inl (l++[e],k-1,t.fst,t.snd.fst,t.snd.snd.fst,()):Zis ⊕ (Zez ⊕ (ZbW ⊕ (Zv×Zw×Za)))))
    (Rnd (fun v:Zis=>0≤v.2.1∧v.2.1≤3∧(v.1.length:Int)+v.2.1≤3∧(∀ e∈v.1,ZdV e)∧Src (v.2.2.1,v.2.2.2.1,v.2.2.2.2.1,())) (fun v=>v.2.1.toNat) k.toNat Q):=fun e t he ht =>
   .ret ⟨⟨by dsimp only;omega,by dsimp only;omega,by dsimp only;simp only [List.length_append,List.length_cons,List.length_nil];omega,Yi i3 he,ht⟩,by dsimp only;omega⟩
  have d0:∀ a b:Int,ZdV ((a,b,([]:List Int),([]:List Int),([]:List Int),()):Zo):=fun a b=>⟨Nat.zero_le _,Nat.zero_le _,Nat.zero_le _⟩
  have d1:∀ a b c:Int,ZdV ((a,b,([]:List Int),([]:List Int),[c],()):Zo):=fun a b c=>⟨Nat.zero_le _,Nat.zero_le _,Nat.le_refl _⟩
  repeat' first
   | exact nx _ _ (d0 _ _) (by assumption)
   | exact nx _ _ (d1 _ _ _) (by assumption)
   | split
   | refine Gets.guard (by simp only [List.length_append,List.length_cons,List.length_nil];omega) ?_
   | refine (Zf (by assumption) _).bind fun _ ⟨_,_⟩=>?_
 ·refine (Zf i4 2).bind fun r ⟨_,h1⟩=>?_
  have hl:l.length≤100:=by omega
  split
  ·refine .ret (hQ _ ⟨hD,⟨hc0,hc1,hcn,hi,ho,hl,i3,?_,?_,Yi VT ?_⟩,h1⟩)
   ·show 1≤([_]++[_]).length;simp
   ·show ([_]++[_]).length≤2;simp
   ·show 4≤4;omega
  ·exact .ret (hQ _ ⟨hD,⟨hc0,hc1,hcn,hi,ho,hl,i3,Nat.le_refl _,by show 1≤2;omega,VT⟩,h1⟩)
theorem Zi7 {D:Zv×Za} (hD:ZfM D.1) {P:List Zk} (hP:P.length≤78) (hP2:(Zp.Vk (Zv.Design D.1)).length≤P.length) {A:Int×Za} {cs:List Zb} (hc0:1≤cs.length) (hc1:cs.length≤7) (hcn:∀ c∈cs,Jg c)
  {s:Za} (hs:Src s) {Q:ZbW ⊕ (Zv×Zw×Za)→Prop} (hQ:∀ r,ZfP r→Q (.inr r)) :
  Gets (ZA (fun v=>Yb D P A cs v.1 v.2.1 v.2.2.1 v.2.2.2.1 v.2.2.2.2.1 v.2.2.2.2.2.1) (([]:List Zi),([]:List Zi),Wq ((P.length:Int)-((Zp.Vk (Zv.Design D.1)).length:Int)),s.fst,s.snd.fst,s.snd.snd.fst,())) Q:=by
 rw [XD (n:=(P.length:Int)-((Zp.Vk (Zv.Design D.1)).length:Int)) (by omega) (by omega)]
 refine Gets.loop (fun v:Zez=>0≤v.2.2.1∧v.2.2.1≤(P.length:Int)∧(v.1.length:Int)≤v.2.2.1∧(v.2.1.length:Int)≤v.2.2.1∧Src (v.2.2.2.1,v.2.2.2.2.1,v.2.2.2.2.2.1,())) (fun v=>(100-v.2.2.1).toNat)
  ⟨by dsimp only;omega,by dsimp only;omega,by dsimp only [List.length_nil];omega,by dsimp only [List.length_nil];omega,hs⟩ ?_
 rintro ⟨ins,outs,p,c0,c1,c2,⟨⟩⟩ ⟨i0,i1,i2,i3,i4⟩
 dsimp only at i0 i1 i2 i3 i4
 show Gets (Yb D P A cs ins outs p c0 c1 c2) _
 unfold Yb
 have en:Wq (p+1)=p+1:=XD (by omega) (by omega)
 simp only [en]
 split
 ·rename_i hp
  have nx:∀ (a b:List Zi) (t:Za),(a.length:Int)≤p+1→(b.length:Int)≤p+1→Src t→Gets (some (.inl (a,b,p+1,t.fst,t.snd.fst,t.snd.snd.fst,()):Zez ⊕ (ZbW ⊕ (Zv×Zw×Za))))
    (Rnd (fun v:Zez=>0≤v.2.2.1∧v.2.2.1≤(P.length:Int)∧(v.1.length:Int)≤v.2.2.1∧(v.2.1.length:Int)≤v.2.2.1∧Src (v.2.2.2.1,v.2.2.2.2.1,v.2.2.2.2.2.1,())) (fun v=>(100-v.2.2.1).toNat) (100-p).toNat Q):=fun a b t ha hb ht =>
   .ret ⟨⟨by dsimp only;omega,by dsimp only;omega,ha,hb,ht⟩,by dsimp only;omega⟩
  refine (Zf i4 60).bind fun r1 ⟨_,h1⟩=>?_
  refine (Zf h1 _).bind fun r2 ⟨_,h2⟩=>?_
  refine (Zf h2 30).bind fun r3 ⟨_,h3⟩=>?_
  refine .at i0 hp fun x _ _=>?_
  repeat' first
   | exact nx _ _ _ (by omega) (by omega) (by assumption)
   | exact nx _ _ _ (by first | omega | (simp only [List.length_append,List.length_cons,List.length_nil];omega)) (by first | omega | (simp only [List.length_append,List.length_cons,List.length_nil];omega)) (by assumption)
   | split
   | refine Gets.guard (by simp only [List.length_append,List.length_cons,List.length_nil];omega) ?_
   | refine (Zf (by assumption) _).bind fun _ ⟨_,_⟩=>?_
 ·refine (Zf i4 3).bind fun r ⟨⟨a,b⟩,h1⟩=>?_
  exact Zi3 hD hc0 hc1 hcn (by omega) (by omega) a (by omega) h1 (fun r hr=>hQ r hr)
theorem ZiK {D:Zv×Za} (hD:ZfM D.1) {P:List Zk} (hP:P.length≤78) (hP2:(Zp.Vk (Zv.Design D.1)).length≤P.length) {A:Int×Za}
  {s:Za} (hs:Src s) :
  Gets (ZA (fun v=>ZY D P A v.1 v.2.1 v.2.2.1 v.2.2.2.1 v.2.2.2.2.1) ((0:Int),s.fst,s.snd.fst,s.snd.snd.fst,([]:List Zb),())) ZfP:=by
 refine Gets.loop (fun v:ZbW=>0≤v.1∧v.1≤7∧(v.2.2.2.2.1.length:Int)=v.1∧(∀ c∈v.2.2.2.2.1,Jg c)∧Src (v.2.1,v.2.2.1,v.2.2.2.1,())) (fun v=>(7-v.1).toNat)
  ⟨by dsimp only;omega,by dsimp only;omega,rfl,fun x hx=>(by cases hx),hs⟩ ?_
 rintro ⟨p,c0,c1,c2,cs,⟨⟩⟩ ⟨i0,i1,i2,i3,i4⟩
 dsimp only at i0 i1 i2 i3 i4
 show Gets (ZY D P A p c0 c1 c2 cs) _
 unfold ZY
 have en:Wq (p+1)=p+1:=XD (by omega) (by omega)
 simp only [en]
 split
 ·rename_i hp
  have hp7:p<7:=by simp only [List.length_cons,List.length_nil] at hp;omega
  refine .at i0 hp fun x hx _=>?_
  have hxn:Jg x:=by
   rw [List.mem_singleton] at hx
   rw [hx]
   show 4≤4
   omega
  have nx:∀ (c:Zb) (t:Za),Jg c→Src t→Gets (some (.inl (p+1,t.fst,t.snd.fst,t.snd.snd.fst,([]:List Zb)++cs++[c],()):ZbW ⊕ (Zv×Zw×Za)))
    (Rnd (fun v:ZbW=>0≤v.1∧v.1≤7∧(v.2.2.2.2.1.length:Int)=v.1∧(∀ c∈v.2.2.2.2.1,Jg c)∧Src (v.2.1,v.2.2.1,v.2.2.2.1,())) (fun v=>(7-v.1).toNat) (7-p).toNat ZfP):=fun c t hc ht =>
   .ret ⟨⟨by dsimp only;omega,by dsimp only;omega,by dsimp only;simp only [List.length_append,List.length_cons,List.length_nil];omega,Yi (by rw [List.nil_append];exact i3) hc,ht⟩,by dsimp only;omega⟩
  split
  ·refine (Zf i4 _).bind fun r ⟨_,h1⟩=>?_
   refine .guard (by simp only [List.length_append,List.length_cons,List.length_nil];omega) ?_
   refine .guard (by simp only [List.length_append,List.length_cons,List.length_nil];omega) ?_
   exact nx _ _ hxn h1
  ·refine .guard (by simp only [List.length_append,List.length_cons,List.length_nil];omega) ?_
   refine .guard (by simp only [List.length_append,List.length_cons,List.length_nil];omega) ?_
   exact nx _ (c0,c1,c2,()) hxn i4
 ·rename_i hp
  simp only [List.length_cons,List.length_nil] at hp
  exact Zi7 hD hP hP2 (by omega) (by omega) i3 (s:=(c0,c1,c2,())) i4 (fun r hr=>hr)
theorem Zi4 {D:Zv×Za} (hD:ZfM D.1) {P:List Zk} {cs:List Zb} (hc0:1≤cs.length) (hc1:cs.length≤7) (hcn:∀ c∈cs,Jg c) {ins outs:List Zi} (hi:ins.length≤100) (ho:outs.length≤100)
  {n:Int} (n0:0≤n) (n1:n≤3) {s:Za} (hs:Src s) {Q:Zez ⊕ (ZbW ⊕ (Zv×Zw×Za))→Prop} (hQ:∀ r,ZfP r→Q (.inr (.inr r))) :
  Gets (ZA (fun v=>YR D P cs ins outs v.1 v.2.1 v.2.2.1 v.2.2.2.1 v.2.2.2.2.1) (([]:List Zo),n,s.fst,s.snd.fst,s.snd.snd.fst,())) Q:=by
 refine Gets.loop (fun v:Zis=>0≤v.2.1∧v.2.1≤3∧(v.1.length:Int)+v.2.1≤3∧(∀ e∈v.1,ZdV e)∧Src (v.2.2.1,v.2.2.2.1,v.2.2.2.2.1,())) (fun v=>v.2.1.toNat) ⟨n0,n1,by dsimp only [List.length_nil];omega,fun x hx=>(by cases hx),hs⟩ ?_
 rintro ⟨l,k,c0,c1,c2,⟨⟩⟩ ⟨i0,i1,i2,i3,i4⟩
 dsimp only at i0 i1 i2 i3 i4
 show Gets (YR D P cs ins outs l k c0 c1 c2) _
 unfold YR
 have en:Wq (k-1)=k-1:=XD (by omega) (by omega)
 simp only [en]
 split
 ·have nx:∀ (e:Zo) (t:Za),ZdV e→Src t→Gets (some (.inl (l++[e],k-1,t.fst,t.snd.fst,t.snd.snd.fst,()):Zis ⊕ (Zez ⊕ (ZbW ⊕ (Zv×Zw×Za)))))
    (Rnd (fun v:Zis=>0≤v.2.1∧v.2.1≤3∧(v.1.length:Int)+v.2.1≤3∧(∀ e∈v.1,ZdV e)∧Src (v.2.2.1,v.2.2.2.1,v.2.2.2.2.1,())) (fun v=>v.2.1.toNat) k.toNat Q):=fun e t he ht =>
   .ret ⟨⟨by dsimp only;omega,by dsimp only;omega,by dsimp only;simp only [List.length_append,List.length_cons,List.length_nil];omega,Yi i3 he,ht⟩,by dsimp only;omega⟩
  have d0:∀ a b:Int,ZdV ((a,b,([]:List Int),([]:List Int),([]:List Int),()):Zo):=fun a b=>⟨Nat.zero_le _,Nat.zero_le _,Nat.zero_le _⟩
  have d1:∀ a b c:Int,ZdV ((a,b,([]:List Int),([]:List Int),[c],()):Zo):=fun a b c=>⟨Nat.zero_le _,Nat.zero_le _,Nat.le_refl _⟩
  repeat' first
   | exact nx _ _ (d0 _ _) (by assumption)
   | exact nx _ _ (d1 _ _ _) (by assumption)
   | split
   | refine Gets.guard (by simp only [List.length_append,List.length_cons,List.length_nil];omega) ?_
   | refine (Zf (by assumption) _).bind fun _ ⟨_,_⟩=>?_
 ·refine (Zf i4 2).bind fun r ⟨_,h1⟩=>?_
  have hl:l.length≤100:=by omega
  split
  ·refine .ret (hQ _ ⟨hD,⟨hc0,hc1,hcn,hi,ho,hl,i3,?_,?_,Yi VT ?_⟩,h1⟩)
   ·show 1≤([_]++[_]).length;simp
   ·show ([_]++[_]).length≤2;simp
   ·show 4≤4;omega
  ·exact .ret (hQ _ ⟨hD,⟨hc0,hc1,hcn,hi,ho,hl,i3,Nat.le_refl _,by show 1≤2;omega,VT⟩,h1⟩)
theorem Zi8 {D:Zv×Za} (hD:ZfM D.1) {P:List Zk} (hP:P.length≤78) (hP2:(Zp.Vk (Zv.Design D.1)).length≤P.length) {A:List Zb×Za} {cs:List Zb} (hc0:1≤cs.length) (hc1:cs.length≤7) (hcn:∀ c∈cs,Jg c)
  {s:Za} (hs:Src s) {Q:ZbW ⊕ (Zv×Zw×Za)→Prop} (hQ:∀ r,ZfP r→Q (.inr r)) :
  Gets (ZA (fun v=>YF D P A cs v.1 v.2.1 v.2.2.1 v.2.2.2.1 v.2.2.2.2.1 v.2.2.2.2.2.1) (([]:List Zi),([]:List Zi),Wq ((P.length:Int)-((Zp.Vk (Zv.Design D.1)).length:Int)),s.fst,s.snd.fst,s.snd.snd.fst,())) Q:=by
 rw [XD (n:=(P.length:Int)-((Zp.Vk (Zv.Design D.1)).length:Int)) (by omega) (by omega)]
 refine Gets.loop (fun v:Zez=>0≤v.2.2.1∧v.2.2.1≤(P.length:Int)∧(v.1.length:Int)≤v.2.2.1∧(v.2.1.length:Int)≤v.2.2.1∧Src (v.2.2.2.1,v.2.2.2.2.1,v.2.2.2.2.2.1,())) (fun v=>(100-v.2.2.1).toNat)
  ⟨by dsimp only;omega,by dsimp only;omega,by dsimp only [List.length_nil];omega,by dsimp only [List.length_nil];omega,hs⟩ ?_
 rintro ⟨ins,outs,p,c0,c1,c2,⟨⟩⟩ ⟨i0,i1,i2,i3,i4⟩
 dsimp only at i0 i1 i2 i3 i4
 show Gets (YF D P A cs ins outs p c0 c1 c2) _
 unfold YF
 have en:Wq (p+1)=p+1:=XD (by omega) (by omega)
 simp only [en]
 split
 ·rename_i hp
  have nx:∀ (a b:List Zi) (t:Za),(a.length:Int)≤p+1→(b.length:Int)≤p+1→Src t→Gets (some (.inl (a,b,p+1,t.fst,t.snd.fst,t.snd.snd.fst,()):Zez ⊕ (ZbW ⊕ (Zv×Zw×Za))))
    (Rnd (fun v:Zez=>0≤v.2.2.1∧v.2.2.1≤(P.length:Int)∧(v.1.length:Int)≤v.2.2.1∧(v.2.1.length:Int)≤v.2.2.1∧Src (v.2.2.2.1,v.2.2.2.2.1,v.2.2.2.2.2.1,())) (fun v=>(100-v.2.2.1).toNat) (100-p).toNat Q):=fun a b t ha hb ht =>
   .ret ⟨⟨by dsimp only;omega,by dsimp only;omega,ha,hb,ht⟩,by dsimp only;omega⟩
  refine (Zf i4 60).bind fun r1 ⟨_,h1⟩=>?_
  refine (Zf h1 _).bind fun r2 ⟨_,h2⟩=>?_
  refine (Zf h2 30).bind fun r3 ⟨_,h3⟩=>?_
  refine .at i0 hp fun x _ _=>?_
  repeat' first
   | exact nx _ _ _ (by omega) (by omega) (by assumption)
   | exact nx _ _ _ (by first | omega | (simp only [List.length_append,List.length_cons,List.length_nil];omega)) (by first | omega | (simp only [List.length_append,List.length_cons,List.length_nil];omega)) (by assumption)
   | split
   | refine Gets.guard (by simp only [List.length_append,List.length_cons,List.length_nil];omega) ?_
   | refine (Zf (by assumption) _).bind fun _ ⟨_,_⟩=>?_
 ·refine (Zf i4 3).bind fun r ⟨⟨a,b⟩,h1⟩=>?_
  exact Zi4 hD hc0 hc1 hcn (by omega) (by omega) a (by omega) h1 (fun r hr=>hQ r hr)
theorem ZiL {D:Zv×Za} (hD:ZfM D.1) {P:List Zk} (hP:P.length≤78) (hP2:(Zp.Vk (Zv.Design D.1)).length≤P.length) {A:List Zb×Za} (hA:1≤A.1.length∧A.1.length≤7) (hAn:∀ c∈A.1,Jg c)
  {s:Za} (hs:Src s) :
  Gets (ZA (fun v=>YG D P A v.1 v.2.1 v.2.2.1 v.2.2.2.1 v.2.2.2.2.1) ((0:Int),s.fst,s.snd.fst,s.snd.snd.fst,([]:List Zb),())) ZfP:=by
 refine Gets.loop (fun v:ZbW=>0≤v.1∧v.1≤7∧(v.2.2.2.2.1.length:Int)=v.1∧(∀ c∈v.2.2.2.2.1,Jg c)∧Src (v.2.1,v.2.2.1,v.2.2.2.1,())) (fun v=>(7-v.1).toNat)
  ⟨by dsimp only;omega,by dsimp only;omega,rfl,fun x hx=>(by cases hx),hs⟩ ?_
 rintro ⟨p,c0,c1,c2,cs,⟨⟩⟩ ⟨i0,i1,i2,i3,i4⟩
 dsimp only at i0 i1 i2 i3 i4
 show Gets (YG D P A p c0 c1 c2 cs) _
 unfold YG
 have en:Wq (p+1)=p+1:=XD (by omega) (by omega)
 simp only [en]
 split
 ·rename_i hp
  have hp7:p<7:=by omega
  refine .at i0 hp fun x hx _=>?_
  have hxn:Jg x:=hAn x hx
  have nx:∀ (c:Zb) (t:Za),Jg c→Src t→Gets (some (.inl (p+1,t.fst,t.snd.fst,t.snd.snd.fst,([]:List Zb)++cs++[c],()):ZbW ⊕ (Zv×Zw×Za)))
    (Rnd (fun v:ZbW=>0≤v.1∧v.1≤7∧(v.2.2.2.2.1.length:Int)=v.1∧(∀ c∈v.2.2.2.2.1,Jg c)∧Src (v.2.1,v.2.2.1,v.2.2.2.1,())) (fun v=>(7-v.1).toNat) (7-p).toNat ZfP):=fun c t hc ht =>
   .ret ⟨⟨by dsimp only;omega,by dsimp only;omega,by dsimp only;simp only [List.length_append,List.length_cons,List.length_nil];omega,Yi (by rw [List.nil_append];exact i3) hc,ht⟩,by dsimp only;omega⟩
  split
  ·refine (Zf i4 _).bind fun r ⟨_,h1⟩=>?_
   refine .guard (by simp only [List.length_append,List.length_cons,List.length_nil];omega) ?_
   refine .guard (by simp only [List.length_append,List.length_cons,List.length_nil];omega) ?_
   exact nx _ _ hxn h1
  ·refine .guard (by simp only [List.length_append,List.length_cons,List.length_nil];omega) ?_
   refine .guard (by simp only [List.length_append,List.length_cons,List.length_nil];omega) ?_
   exact nx _ (c0,c1,c2,()) hxn i4
 ·rename_i hp
  exact Zi8 hD hP hP2 (by omega) (by omega) i3 (s:=(c0,c1,c2,())) i4 (fun r hr=>hr)
theorem Zik {s:Za} (hs:Src s):Gets (Vj s) ZfP:=by
 unfold Vj
 refine (ZeD hs (most:=4) (by omega) (by omega) _).bind fun r0 ⟨b0,h0⟩=>?_
 have pl:∀ {d:Zp},Zll d→YJ d=some (places d)∧(places d).length≤78∧(Zp.Vk d).length≤(places d).length:=fun {d} hd=>by
  refine ⟨JF d hd.few,Zck hd.few,?_⟩
  unfold places
  rw [List.length_append]
  have:∀ (l:List Zah) (m:Nat),(cat ZdA m l).length=l.length:=by
   intro l
   induction l with
   | nil=>intro m;rfl
   | cons x r ih=>intro m;simp only [cat,List.length_append,ZdA,List.length_cons,List.length_nil,ih];omega
  rw [this]
  omega
 refine (Zf h0 6).bind fun r1 ⟨_,h1⟩=>?_
 split
 ·refine (ZeD h1 (most:=5) (by omega) (by omega) _).bind fun r2 ⟨b2,h2⟩=>?_
  obtain ⟨e1,e2,e3⟩:=pl b2.des
  refine (Gets.of (a:=places (Zv.Design r2.1)) e1 rfl:Gets _ (fun a=>a=places (Zv.Design r2.1))).bind fun P hP=>?_
  subst hP
  refine (Zc9 h2).bind fun r3 ⟨⟨hl,hn⟩,h3⟩=>?_
  split
  ·omega
  ·refine (Gets.of (Q5 r3.1 (Zjy hn) (by omega)) trivial:Gets _ (fun _=>True)).bind fun ok _=>?_
   split
   ·exact ZiJ b2 e2 e3 hl hn h3
   ·refine (Zf h3 400).bind fun r4 ⟨_,h4⟩=>?_
    exact ZiI b2 e2 e3 h4
 ·obtain ⟨e1,e2,e3⟩:=pl b0.des
  refine (Gets.of (a:=places (Zv.Design r0.1)) e1 rfl:Gets _ (fun a=>a=places (Zv.Design r0.1))).bind fun P hP=>?_
  subst hP
  refine (Zc9 h1).bind fun r3 ⟨⟨hl,hn⟩,h3⟩=>?_
  split
  ·omega
  ·refine (Gets.of (Q5 r3.1 (Zjy hn) (by omega)) trivial:Gets _ (fun _=>True)).bind fun ok _=>?_
   split
   ·exact ZiL b0 e2 e3 hl hn h3
   ·refine (Zf h3 400).bind fun r4 ⟨_,h4⟩=>?_
    exact ZiK b0 e2 e3 h4
theorem ZeT {l:List Zi} (h:l.length≤1048576):sm (.sl Vy) l:=smL h (fun _ _=>⟨trivial,trivial,⟨trivial,trivial,trivial⟩,⟨trivial,trivial,trivial⟩,trivial⟩)
theorem ZjP {l:List Zb} (h:l.length≤1048576) (h2:∀ c∈l,Jg c):sm (.sl Xd) l:=smL h (fun c hc=>by
 have:=h2 c hc
 unfold Jg at this
 exact ⟨smS (by show (Zb.Name c).length≤_;omega),trivial,trivial,trivial,trivial,trivial,trivial,trivial,trivial,trivial,trivial,trivial⟩)
theorem ZjR {l:List Zo} (h:l.length≤1048576) (h2:∀ e∈l,ZdV e):sm (.sl ZaR) l:=smL h (fun e he=>by
 obtain ⟨a,b,c⟩:=h2 e he
 exact ⟨trivial,trivial,smI (by show (Zo.From e).length≤_;omega),smI (by show (Zo.Through e).length≤_;omega),smI (by show (Zo.To e).length≤_;omega),trivial⟩)
theorem ZjQ {l:List Qj} (h:l.length≤1048576) (h2:∀ c∈l,(Qj.Name c).length≤4):sm (.sl ZdM) l:=smL h (fun c hc=>by
 have:=h2 c hc
 exact ⟨smS (by show (Qj.Name c).length≤_;omega),trivial,trivial,trivial,trivial,trivial⟩)
theorem Zke {s:Za} (hs:Src s):Gets (XO s) (fun r=>ZfM r.1∧(sm ZeV r.2.1∧(Zw.XP r.2.1).length≤7)∧Src r.2.2):=by
 unfold XO
 refine (Zik hs).bind fun r0 ⟨hb,hx,h0⟩=>?_
 obtain ⟨c0,c1,cn,i1,o1,e1,ee,k0,k1,kn⟩:=hx
 refine (Zf h0 24).bind fun r1 ⟨_,h1⟩=>?_
 have sC:=ZjP (by omega) cn
 have sI:=ZeT (l:=Zw.ZeA r0.2.1) (by omega)
 have sO:=ZeT (l:=Zw.ZgD r0.2.1) (by omega)
 have sE:=ZjR (by omega) ee
 have sK:=ZjQ (by omega) kn
 have same:Gets (some (r0.1,r0.2.1,r1.2)) (fun r=>ZfM r.1∧(sm ZeV r.2.1∧(Zw.XP r.2.1).length≤7)∧Src r.2.2):=.ret ⟨hb,⟨⟨sC,sI,sO,sE,sK,trivial⟩,c1⟩,h1⟩
 split
 ·refine (Zf h1 2).bind fun r2 ⟨⟨a,b⟩,h2⟩=>?_
  refine .at a (by simp only [List.length_cons,List.length_nil];omega) fun x _ _=>?_
  refine .at (by omega) (by show (0:Int)<((Zw.XP r0.2.1).length:Int);omega) fun c hc _=>?_
  refine .ret ⟨hb,⟨⟨ZjP ?_ (Ze7 cn (cn c hc)),sI,sO,sE,sK,trivial⟩,?_⟩,h2⟩
  ·show (List.set (Zw.XP r0.2.1) _ _).length≤_
   rw [List.length_set];omega
  ·show (List.set (Zw.XP r0.2.1) _ _).length≤7
   rw [List.length_set];exact c1
 split
 ·split
  ·rename_i hl
   refine (Zf h1 2).bind fun r2 ⟨⟨a,b⟩,h2⟩=>?_
   refine .at a (by simp only [List.length_cons,List.length_nil];omega) fun x _ _=>?_
   refine .at (by omega) hl fun c hc _=>?_
   refine .ret ⟨hb,⟨⟨sC,ZeT ?_,sO,sE,sK,trivial⟩,c1⟩,h2⟩
   show (List.set (Zw.ZeA r0.2.1) _ _).length≤_
   rw [List.length_set];omega
  ·exact same
 split
 ·split
  ·rename_i hl
   refine .at (by omega) hl fun c hc _=>?_
   refine .ret ⟨hb,⟨⟨sC,ZeT ?_,sO,sE,sK,trivial⟩,c1⟩,h1⟩
   show (List.set (Zw.ZeA r0.2.1) _ _).length≤_
   rw [List.length_set];omega
  ·exact same
 split
 ·split
  ·rename_i hl
   refine .at (by omega) hl fun c hc _=>?_
   refine .ret ⟨hb,⟨⟨sC,sI,ZeT ?_,sE,sK,trivial⟩,c1⟩,h1⟩
   show (List.set (Zw.ZgD r0.2.1) _ _).length≤_
   rw [List.length_set];omega
  ·exact same
 split
 ·refine .at (by omega) (by show (0:Int)<((Zw.ZbX r0.2.1).length:Int);omega) fun c hc _=>?_
  have hl:(Zw.ZbX r0.2.1++[c]).length≤1048576:=by rw [List.length_append,List.length_singleton];omega
  refine .guard (by show ((Zw.ZbX r0.2.1).length+1)*48≤140737488355328;omega) (.ret ⟨hb,⟨⟨sC,sI,sO,sE,ZjQ hl (Yi kn (kn c hc)),trivial⟩,c1⟩,h1⟩)
 split
 ·have hl:(Zw.Exceptions r0.2.1++[((0:Int),(0:Int),([]:List Int),([]:List Int),([]:List Int),())]).length≤1048576:=by rw [List.length_append,List.length_singleton];omega
  refine .guard (by show ((Zw.Exceptions r0.2.1).length+1)*88≤140737488355328;omega) (.ret ⟨hb,⟨⟨sC,sI,sO,ZjR hl (Yi ee ⟨Nat.zero_le _,Nat.zero_le _,Nat.zero_le _⟩),sK,trivial⟩,c1⟩,h1⟩)
 split
 ·split
  ·rename_i hl
   refine .at (by omega) hl fun c hc _=>?_
   have hl2:(Zw.ZeA r0.2.1++[c]).length≤1048576:=by rw [List.length_append,List.length_singleton];omega
   refine .guard (by show ((Zw.ZeA r0.2.1).length+1)*48≤140737488355328;omega) (.ret ⟨hb,⟨⟨sC,ZeT hl2,sO,sE,sK,trivial⟩,c1⟩,h1⟩)
  ·exact same
 split
 ·exact .ret ⟨hb,⟨⟨smL (by simp) (by simp),smL (by simp) (by simp),smL (by simp) (by simp),smL (by simp) (by simp),smL (by simp) (by simp),trivial⟩,by show 0≤7;omega⟩,h1⟩
 ·exact same
/-
  Plain laws: between the rising edges of a clock lies one period for setup and none for hold: the law FnRelation.
-/
theorem Zhy {p:Int} (h1:2≤p) (h2:p≤100000):hyp p p=p:=by
 unfold hyp
 have hg:((Int.gcd p p:Nat):Int)=p:=by rw [Int.gcd_self];omega
 rw [hg,Int.tdiv_self (by omega),XD (n:=1) (by omega) (by omega),Int.one_mul,XD (by omega) (by omega)]
theorem Zgf {l:List Zb} {a b:Int} (h:Zbj l a 0 b 0):Qv l b 0 b 0=0:=by
 have wb:=Zli h.ok h.b0 h.b1
 have p1:=wb.p1;have p2:=wb.p2
 unfold Qv
 rw [if_pos (ZcF h.ok),if_pos (by simp only [Bool.and_eq_true,within_iff];have:=h.b0;have:=h.b1;omega),if_pos (by decide),if_pos rfl,Zhy p1 p2,if_neg (by omega),Int.tdiv_self (by omega),XD (by omega) (by omega),if_neg (by omega)]
theorem Zic {l:List Zb} {a b:Int} (h:Zbj l a 0 b 0):(Yr l b 0 b 0).map dif=[(ZQ l b).period]:=by
 have wb:=Zli h.ok h.b0 h.b1
 have p1:=wb.p1;have p2:=wb.p2
 have be:=JB wb 0
 unfold Yr
 rw [Zhy p1 p2]
 generalize hs:XQ (ZQ l b) 0=s at be ⊢
 have hc:count s (ZQ l b).period (ZQ l b).period=1:=by
  unfold count
  have:((ZQ l b).period-s+(ZQ l b).period-1) / (ZQ l b).period=1:=by
   rw [Int.ediv_eq_iff_of_pos (by omega)]
   omega
  rw [this];rfl
 rw [hc]
 show [dif [s+((0:Nat):Int)*(ZQ l b).period,Zci (ZQ l b) 0 (s+((0:Nat):Int)*(ZQ l b).period+1)]]=_
 rw [Int.natCast_zero,Int.zero_mul,Int.add_zero]
 show [Zci (ZQ l b) 0 (s+1)-s]=_
 have hm:(s-(s+1)) % (ZQ l b).period=(ZQ l b).period-1:=by
  rw [show s-(s+1)=(ZQ l b).period-1+(ZQ l b).period*(-1) by omega,Int.add_mul_emod_self_left,Int.emod_eq_of_lt (by omega) (by omega)]
 unfold Zci
 rw [hs,hm]
 congr 1
 omega
theorem Zg8 {l:List Zb} {a b:Int} (h:Zbj l a 0 b 0):1≤J6 l a 0 b 0∧J6 l a 0 b 0≤(ZQ l b).period:=by
 have pp:=Zet h
 have p3:=pp.wb.p1;have p4:=pp.wb.p2
 have hb:∀ d∈(Yr l a 0 b 0).map dif,1≤d:=by
  intro d hd
  obtain ⟨x,hx,rfl⟩:=List.mem_map.1 hd
  obtain ⟨u,v,_,_,h1,h2⟩:=Ziy (Xo h x hx) p4
  exact h1
 unfold J6
 generalize (Yr l a 0 b 0).map dif=D at hb
 have:∀ (D:List Int),(∀ d∈D,1≤d)→∀ m:Int,1≤m→m≤(ZQ l b).period→1≤D.foldl min m∧D.foldl min m≤(ZQ l b).period:=by
  intro D
  induction D with
  | nil=>intro _ m h1 h2;exact ⟨h1,h2⟩
  | cons d D ih =>
   intro hb m h1 h2
   have:=hb d (by simp)
   exact ih (fun d hd=>hb d (by simp [hd])) (min m d) (by omega) (by omega)
 exact this D hb _ (by omega) (by omega)
theorem Zeo {l:List Zb} {a b:Int} (h:Zbj l a 0 b 0):VB l b=some ((ZQ l b).period,(ZQ l b).rise,(ZQ l b).fall,0):=by
 unfold VB
 have hc:codeOf l [b]=0:=by
  unfold codeOf
  rw [if_pos (ZcF h.ok),if_pos]
  have:=h.b0;have:=h.b1
  simp only [allIn,List.all_cons,List.all_nil,Bool.and_true,within_iff]
  omega
 rw [JC _ _ (by simp),Bq,hc,if_pos rfl,Qg (Vs h.ok h.b0 h.b1)]
 rfl
theorem ZfV {code:List Int} (hc:∀ x∈code,0≤x∧x≤255) (hl:code.length≤4096):Gets (YC code) (fun r=>sm ZeV r.1∧(Zw.XP r.1).length≤7):=by
 unfold YC
 refine (Zjd hc hl).bind fun s hs=>?_
 refine (Zke hs).bind fun r ⟨_,hx,h0⟩=>?_
 refine (Zf h0 _).bind fun r1 ⟨_,h1⟩=>?_
 refine (Zf h1 _).bind fun r2 ⟨_,h2⟩=>?_
 refine (Zf h2 _).bind fun r3 ⟨_,h3⟩=>?_
 exact .ret hx
theorem Zkh {code:List Int} (hb:bnd (.sl (.int .u8)) code):∀ x∈code,0≤x∧x≤255:=fun x hx=>hb.2 x hx
theorem ZbD (code:List Int) (hb:bnd (.sl (.int .u8)) code):Qs code=some true:=by
 unfold Qs ZbE
 rw [Bq]
 split
 ·rfl
 rename_i hbig
 have hlen:code.length≤4096:=by
  simp only [decide_eq_true_eq] at hbig
  omega
 obtain ⟨⟨x,a,b⟩,hd,hs,h7⟩:=ZfV (Zkh hb) hlen
 have hn:ZbH (Zw.XP x):=fun c hm=>by
  have h1:((Zb.Name c).length:Int)≤1048576:=(hs.1.2 c hm).1
  omega
 have hl:(Zw.XP x).length≤4611686018427387904:=by
  have:(Zw.XP x).length≤7:=h7
  omega
 rw [hd,Bq]
 dsimp only
 rw [Jl x a b,Bq,ZbR x a b hn hl,Bq,if_pos rfl]
 show (if (XJ (Zw.XP x) a b).2=0 then _ else _)=_
 generalize hlc:Zw.XP x=l
 by_cases hc:Qv l a 0 b 0=0
 ·have h:=ZjE hc
  have hc2:=Zgf h
  have e1:XJ l a b=(ZkR l a b (J6 l a 0 b 0) (Zdn l a 0 b 0),0):=by
   unfold XJ
   rw [hc,if_pos rfl]
  have e2:XJ l b b=(ZkR l b b (ZQ l b).period 0,0):=by
   unfold XJ
   rw [hc2,if_pos rfl]
   have wb:=Zli h.ok h.b0 h.b1
   have p1:=wb.p1
   unfold J6 Zdn
   rw [Zic h]
   simp only [List.foldl_cons,List.foldl_nil]
   rw [show min (ZQ l b).period (ZQ l b).period=(ZQ l b).period by omega,show max (-(ZQ l b).period-(ZQ l b).period) ((ZQ l b).period-(ZQ l b).period)=0 by omega]
  obtain ⟨s1,s2⟩:=Zg8 h
  rw [e1,if_pos rfl,Jl x b b,hlc,Bq,e2]
  rw [show x.fst=l from hlc,Zeo h,Bq]
  refine (if_pos rfl).trans ((if_pos rfl).trans ((if_pos rfl).trans ((if_pos rfl).trans ((if_pos s1).trans ((if_pos s2).trans ?_)))))
  refine congrArg some (decide_eq_true ?_)
  show max (Zb.ZR (l[b.toNat]?.getD default)) (Zb.ZR (l[b.toNat]?.getD default))≤max (Zb.ZR (l[a.toNat]?.getD default)) (Zb.ZR (l[b.toNat]?.getD default))
  omega
 ·have e1:XJ l a b=(Zos,Qv l a 0 b 0):=by
   unfold XJ
   rw [if_neg hc]
  rw [e1,if_neg hc]
  rfl
end Go.Proofs.YtnnbgbgapogckaaGreatDoor
