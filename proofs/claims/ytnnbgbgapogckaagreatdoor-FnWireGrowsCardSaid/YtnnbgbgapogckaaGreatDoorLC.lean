/-
  Plain laws: nodes behind wiring, designs connected back; an edit's state, told the other way round.
-/
import Derived.Test.YtnnbgbgapogckaaGreatDoorLB
import Derived.Test.YtnnbgbgapogckaaGreatDoorLA
import Derived.Test.YtnnbgbgapogckaaGreatDoorM
import Derived.Test.YtnnbgbgapogckaaGreatDoorSxBr
namespace Go.Proofs.YtnnbgbgapogckaaGreatDoor
set_option linter.unusedVariables false
set_option linter.unusedSimpArgs false
open Go Go.Sx
/-
  Plain laws: an edit undone.
-/
/-
  Plain laws: a buffer taken away, put in again; every edit is undone by its inverse.
-/
theorem ZAS {b:Zv} {e:Zbk} (hB:ZqJ b) (k5:Zbk.Kind e=5) (hn:Zre (Zv.Design b) (Zbk.Net e)) (hs:sm ZjY (Zbk.ZoZ e)):Zpy e b=some (Zy5 b (Zbk.Net e) (Zbk.ZoZ e)):=by
 obtain ⟨w,hw1,hw2,_⟩:=ZtN hB hn
 unfold Zpy
 rw [Zp4 _ hB.sm,Bq,if_neg (by omega),if_neg (by omega),if_neg (by omega),if_neg (by omega),if_pos k5,Zr2 _ hs,Bq,hw2,Bq]
 rfl
/-
  Plain laws: what a draw yields: the source, its numbers.
-/
def Gets {α:Type} (o:Option α) (Q:α→Prop):Prop:=∃ a,o=some a∧Q a
theorem Gets.ret {α:Type} {a:α} {Q:α→Prop} (h:Q a):Gets (some a) Q:=⟨a,rfl,h⟩
theorem Gets.bind {α β:Type} {o:Option α} {P:α→Prop} {f:α→Option β} {Q:β→Prop} (h:Gets o P) (k:∀ a,P a→Gets (f a) Q):Gets (o.bind f) Q:=by
 obtain ⟨a,e,hp⟩:=h
 rw [e]
 exact k a hp
theorem Gets.guard {α:Type} {p:Prop} {o:Option α} {Q:α→Prop} (h:p) (k:Gets o Q):Gets (Zj p o) Q:=by rw [ZB h];exact k
theorem Gets.ite {α:Type} {p:Prop} [Decidable p] {a b:Option α} {Q:α→Prop} (h1:p→Gets a Q) (h2:¬p→Gets b Q):Gets (if p then a else b) Q:=by
 split
 ·exact h1 (by assumption)
 ·exact h2 (by assumption)
theorem Gets.at {α β:Type} {l:List α} {i:Int} {f:α→Option β} {Q:β→Prop} (h0:0≤i) (h1:i<(l.length:Int)) (k:∀ x,x∈l→l[i.toNat]?=some x→Gets (f x) Q):Gets ((atI l i).bind f) Q:=by
 obtain ⟨x,e,hx⟩:=Zbn h0 h1
 rw [e]
 exact k x (List.mem_of_getElem? hx) hx
theorem Gets.mono {α:Type} {o:Option α} {P Q:α→Prop} (h:Gets o P) (k:∀ a,P a→Q a):Gets o Q:=by
 obtain ⟨a,e,hp⟩:=h
 exact ⟨a,e,k a hp⟩
theorem Gets.of {α:Type} {o:Option α} {a:α} {Q:α→Prop} (e:o=some a) (h:Q a):Gets o Q:=⟨a,e,h⟩
def Rnd {τ ρ:Type} (I:τ→Prop) (μ:τ→Nat) (m:Nat) (Q:ρ→Prop):τ ⊕ ρ→Prop
 | .inl v=>I v∧μ v<m
 | .inr r=>Q r
theorem Gets.loop {τ ρ:Type} {step:τ→Option (τ ⊕ ρ)} (I:τ→Prop) (μ:τ→Nat) {Q:ρ→Prop} {v:τ} (h0:I v) (hs:∀ v,I v→Gets (step v) (Rnd I μ (μ v) Q)):Gets (ZA step v) Q:=by
 refine ZeX I μ Q h0 (fun v hI=>?_)
 obtain ⟨r,e,h⟩:=hs v hI
 cases r with
 | inl v'=>exact .inl ⟨v',e,h⟩
 | inr r=>exact .inr ⟨r,e,h⟩
structure Src (s:Za):Prop where
 code:∀ x∈Za.code s,0≤x∧x≤255
 len:(Za.code s).length≤4096
 at0:0≤Za.at s
 at1:Za.at s≤4096
 sd0:0≤Za.seed s
 sd1:Za.seed s<2147483647
def Bel (n k:Int):Prop:=0≤k∧(k<n∨k=0)
theorem Zf {s:Za} (hs:Src s) (n:Int):Gets (Zc s n) (fun r=>Bel n r.1∧Src r.2):=by
 obtain ⟨hc,hl,a0,a1,s0,s1⟩:=hs
 unfold Zc
 split
 ·exact .ret ⟨⟨Int.le_refl _,.inr rfl⟩,⟨hc,hl,a0,a1,s0,s1⟩⟩
 rename_i hn
 split
 ·rename_i hat
  refine .at a0 hat fun x hx _=>?_
  obtain ⟨b0,b1⟩:=hc x hx
  have e1:Wq (Za.at s+1)=Za.at s+1:=XD (by omega) (by omega)
  have e2:Wq x=x:=XD (by omega) (by omega)
  have e3:Wq (Za.seed s*48271)=Za.seed s*48271:=XD (by omega) (by omega)
  have e4:Wq (Za.seed s*48271+x)=Za.seed s*48271+x:=XD (by omega) (by omega)
  have e5:Wq (Za.seed s*48271+x+1)=Za.seed s*48271+x+1:=XD (by omega) (by omega)
  simp only [e2,e3,e4,e5,e1]
  split
  ·refine .guard (by omega) (.ret ⟨⟨Int.tmod_nonneg _ b0,.inl (Int.tmod_lt_of_pos _ (by omega))⟩,⟨hc,hl,?_,?_,s0,s1⟩⟩)
   ·show 0≤Za.at s+1;omega
   ·show Za.at s+1≤4096;omega
  ·have m0:=Int.tmod_nonneg (a:=Za.seed s*48271+x+1) 2147483647 (by omega)
   have m1:=Int.tmod_lt_of_pos (Za.seed s*48271+x+1) (show (0:Int)<2147483647 by omega)
   refine .guard (by omega) (.ret ⟨⟨Int.tmod_nonneg _ m0,.inl (Int.tmod_lt_of_pos _ (by omega))⟩,⟨hc,hl,?_,?_,m0,m1⟩⟩)
   ·show 0≤Za.at s+1;omega
   ·show Za.at s+1≤4096;omega
 ·have e3:Wq (Za.seed s*48271)=Za.seed s*48271:=XD (by omega) (by omega)
  have e4:Wq (Za.seed s*48271+11)=Za.seed s*48271+11:=XD (by omega) (by omega)
  simp only [e3,e4]
  have m0:=Int.tmod_nonneg (a:=Za.seed s*48271+11) 2147483647 (by omega)
  have m1:=Int.tmod_lt_of_pos (Za.seed s*48271+11) (show (0:Int)<2147483647 by omega)
  generalize (Za.seed s*48271+11).tmod 2147483647=q at m0 m1
  have d0:q.tdiv 7=q / 7:=Int.tdiv_eq_ediv_of_nonneg m0
  rw [d0,XD (n:=q / 7) (by omega) (by omega)]
  exact .guard (by omega) (.ret ⟨⟨Int.tmod_nonneg _ (by omega),.inl (Int.tmod_lt_of_pos _ (by omega))⟩,⟨hc,hl,a0,a1,m0,m1⟩⟩)
theorem Zjd {code:List Int} (hc:∀ x∈code,0≤x∧x≤255) (hl:code.length≤4096):Gets (Ve code) Src:=by
 unfold Ve
 refine Gets.loop (fun v=>0≤v.1∧v.1≤64∧0≤v.2.1∧v.2.1<2147483647) (fun v=>(64-v.1).toNat) ⟨Int.le_refl _,by show (0:Int)≤64;omega,by show (0:Int)≤12345;omega,by show (12345:Int)<2147483647;omega⟩ ?_
 rintro ⟨i,c,⟨⟩⟩ ⟨i0,i1,c0,c1⟩
 simp only at i0 i1 c0 c1
 have fin:Gets (some (.inr (code,(0:Int),c,()):(Int×Int×Unit) ⊕ Za)) (Rnd (fun v:Int×Int×Unit=>0≤v.1∧v.1≤64∧0≤v.2.1∧v.2.1<2147483647) (fun v=>(64-v.1).toNat) ((fun v:Int×Int×Unit=>(64-v.1).toNat) (i,c,())) Src) :=
  .ret (show Src (code,(0:Int),c,()) from ⟨hc,hl,Int.le_refl _,by show (0:Int)≤4096;omega,c0,c1⟩)
 show Gets (Xp code i c) _
 unfold Xp
 split
 ·rename_i hi
  split
  ·rename_i h64
   refine .at i0 hi fun x hx _=>?_
   obtain ⟨b0,b1⟩:=hc x hx
   have e1:Wq (i+1)=i+1:=XD (by omega) (by omega)
   have e2:Wq x=x:=XD (by omega) (by omega)
   have e3:Wq (c*31)=c*31:=XD (by omega) (by omega)
   have e4:Wq (c*31+x)=c*31+x:=XD (by omega) (by omega)
   simp only [e1,e2,e3,e4]
   refine .ret ⟨⟨?_,?_,Int.tmod_nonneg _ (by omega),Int.tmod_lt_of_pos _ (by omega)⟩,?_⟩
   ·show 0≤i+1;omega
   ·show i+1≤64;omega
   ·show (64-(i+1)).toNat<(64-i).toNat;omega
  ·exact fin
 ·exact fin
theorem ZcZ {n:Int} (h0:0≤n) (h1:n<100):Gets (XG n) (fun r=>r.length≤2):=by
 have one:∀ (k:Nat) (m:Int),0≤m→m<10→Yp (k+1) m=some (bytesOf [IntKind.wrap IntKind.u8 (Wq (48+m))]):=fun k m a b=>by
  show ZN (Yp k) m=_
  unfold ZN
  rw [if_neg (by omega),if_pos b]
 have hb:∀ x:Int,(bytesOf [x]).length=1:=fun x=>rfl
 unfold XG
 by_cases h:n<10
 ·refine .of (Zfz ⟨1,one 0 n h0 h⟩ (fun k r hr=>?_)) (by rw [hb];omega)
  cases k with
  | zero=>cases hr
  | succ k=>rw [one k n h0 h] at hr;injection hr with hr;exact hr.symm
 ·have hd:n.tdiv 10=n / 10:=Int.tdiv_eq_ediv_of_nonneg h0
  have two:∀ k:Nat,Yp (k+2) n=some (bytesOf [IntKind.wrap IntKind.u8 (Wq (48+n / 10))]++bytesOf [IntKind.wrap IntKind.u8 (Wq (48+n.tmod 10))]):=fun k=>by
   show ZN (Yp (k+1)) n=_
   unfold ZN
   rw [if_neg (by omega),if_neg h,hd,XD (n:=n / 10) (by omega) (by omega),one k (n / 10) (by omega) (by omega),Bq,ZB (by rw [hb,hb];omega)]
  refine .of (Zfz ⟨2,two 0⟩ (fun k r hr=>?_)) (by rw [List.length_append,hb,hb];omega)
  match k,hr with
  | 0,hr=>cases hr
  | 1,hr =>
   exfalso
   revert hr
   show ¬ZN (Yp 0) n=some r
   unfold ZN
   rw [if_neg (by omega),if_neg h]
   intro hr
   cases hr
  | k+2,hr=>rw [two k] at hr;injection hr with hr;exact hr.symm
theorem Yi {α:Type} {P:α→Prop} {l:List α} {x:α} (h:∀ y∈l,P y) (hx:P x):∀ y∈l++[x],P y:=by
 intro y hy
 rcases List.mem_append.1 hy with hy | hy
 ·exact h y hy
 ·rw [List.mem_singleton] at hy
  rw [hy];exact hx
theorem Ze7 {α:Type} {P:α→Prop} {l:List α} {x:α} {i:Nat} (h:∀ y∈l,P y) (hx:P x):∀ y∈l.set i x,P y:=by
 intro y hy
 rcases List.mem_or_eq_of_mem_set hy with hy | hy
 ·exact h y hy
 ·rw [hy];exact hx
theorem smI {l:List Int} (h:l.length≤1048576):sm (.sl (.int .i64)) l:=⟨by omega,fun _ _=>trivial⟩
theorem smS {s:List UInt8} (h:s.length≤1048576):sm .str s:=by show (s.length:Int)≤1048576;omega
theorem smL {t:Ty} {l:List t.den} (h:l.length≤1048576) (h2:∀ x∈l,sm t x):sm (.sl t) l:=⟨by omega,h2⟩
/-
  Plain laws: what the draws of tables, arcs, cells and libraries yield.
-/
theorem ZfT {s:Za} (hs:Src s) (st:Int):Gets (YU s st) (fun r=>(1≤r.1.length∧r.1.length≤3)∧Src r.2):=by
 unfold YU
 refine (Zf hs st).bind fun r0 ⟨_,h0⟩=>?_
 refine (Zf h0 3).bind fun r1 ⟨⟨a,b⟩,h1⟩=>?_
 have e:Wq (1+r1.1)=1+r1.1:=XD (by omega) (by omega)
 rw [e]
 refine Gets.loop (fun v=>0≤v.2.2.1∧(v.1.length:Int)+v.2.2.1=1+r1.1∧Src (v.2.2.2.1,v.2.2.2.2.1,v.2.2.2.2.2.1,())) (fun v=>v.2.2.1.toNat) ⟨by dsimp only;omega,by dsimp only [List.length_nil];omega,h1⟩ ?_
 rintro ⟨out,t,n,c0,c1,c2,⟨⟩⟩ ⟨i1,i2,i3⟩
 dsimp only at i1 i2 i3
 show Gets (Yv st out t n c0 c1 c2) _
 unfold Yv
 have hw:Wq (n-1)=n-1:=XD (by omega) (by omega)
 rw [hw]
 split
 ·refine .guard (by simp only [List.length_cons,List.length_nil];omega) ?_
  refine (Zf i3 st).bind fun r ⟨_,h2⟩=>?_
  refine .ret ⟨⟨by dsimp only;omega,by dsimp only;simp only [List.length_append,List.length_cons,List.length_nil];omega,h2⟩,by dsimp only;omega⟩
 ·exact .ret ⟨⟨by dsimp only;omega,by dsimp only;omega⟩,i3⟩
theorem Zl1 {a b:Nat} (ha:1≤a∧a≤3) (hb:1≤b∧b≤3):(b:Int)≤(a:Int)*(b:Int)∧(a:Int)*(b:Int)≤9:=by
 have:a=1∨a=2∨a=3:=by omega
 rcases this with rfl | rfl | rfl<;>omega
theorem ZeW {s:Za} (hs:Src s) (base:Int):Gets (Qy s base) (fun r=>sm ZdQ r.1∧Src r.2):=by
 unfold Qy
 refine (ZfT hs 60).bind fun r0 ⟨ha,h0⟩=>?_
 refine (ZfT h0 40).bind fun r1 ⟨hb,h1⟩=>?_
 obtain ⟨p1,p2⟩:=Zl1 ha hb
 refine Gets.loop (fun v=>0≤v.2.1∧v.2.1≤9∧(v.1.length:Int)=v.2.1∧Src (v.2.2.1,v.2.2.2.1,v.2.2.2.2.1,())) (fun v=>(9-v.2.1).toNat) ⟨by dsimp only;omega,by dsimp only;omega,by dsimp only [List.length_nil];omega,h1⟩ ?_
 rintro ⟨out,i,c0,c1,c2,⟨⟩⟩ ⟨i0,i1,i2,i3⟩
 dsimp only at i0 i1 i2 i3
 show Gets (Xq base r0 r1 out i c0 c1 c2) _
 unfold Xq
 have e0:Wq ((r0.1.length:Int)*(r1.1.length:Int))=(r0.1.length:Int)*(r1.1.length:Int):=XD (by omega) (by omega)
 have e1:Wq (i+1)=i+1:=XD (by omega) (by omega)
 have e2:Wq (i-1)=i-1:=XD (by omega) (by omega)
 have e3:Wq (i-(r1.1.length:Int))=i-(r1.1.length:Int):=XD (by omega) (by omega)
 rw [e0,e1,e2,e3]
 split
 ·rename_i hi
  have nx:∀ (x:Int) (t:Za),Src t→Gets (Zj ((List.length out+List.length [x])*(8:Nat)≤(140737488355328:Nat)) (some (.inl (out++[x],i+1,t.fst,t.snd.fst,t.snd.snd.fst,()):(List Int×Int×List Int×Int×Int×Unit) ⊕ (Jy×Za))))
    (Rnd (fun v:List Int×Int×List Int×Int×Int×Unit=>0≤v.2.1∧v.2.1≤9∧(v.1.length:Int)=v.2.1∧Src (v.2.2.1,v.2.2.2.1,v.2.2.2.2.1,())) (fun v=>(9-v.2.1).toNat) (9-i).toNat (fun r=>sm ZdQ r.1∧Src r.2)):=fun x t ht =>
   .guard (by simp only [List.length_cons,List.length_nil];omega) (.ret ⟨⟨by dsimp only;omega,by dsimp only;omega,by dsimp only;simp only [List.length_append,List.length_cons,List.length_nil];omega,ht⟩,by dsimp only;omega⟩)
  refine (Zf i3 10).bind fun r ⟨_,g0⟩=>?_
  refine .guard (by omega) ?_
  split
  ·rename_i hm
   have hne:i≠0:=by
    intro q
    rw [q,Int.zero_tmod] at hm
    omega
   refine .at (by omega) (by omega) fun x0 _ _=>?_
   refine (Zf g0 20).bind fun r2 ⟨_,g1⟩=>?_
   split
   ·refine .at (by omega) (by omega) fun x1 _ _=>?_
    refine (Zf g1 20).bind fun r3 ⟨_,g2⟩=>?_
    exact nx _ _ g2
   ·exact nx _ _ g1
  ·split
   ·refine .at (by omega) (by omega) fun x1 _ _=>?_
    refine (Zf g0 20).bind fun r3 ⟨_,g2⟩=>?_
    exact nx _ _ g2
   ·exact nx _ _ g0
 ·exact .ret ⟨⟨smI (by dsimp only;omega),smI (by dsimp only;omega),smI (by dsimp only;omega),trivial⟩,i3⟩
theorem Zbg {s:Za} (hs:Src s) (base:Int):Gets (Z7 s base) (fun r=>sm (.sl ZdQ) r.1∧Src r.2):=by
 unfold Z7
 refine (ZeW hs base).bind fun r0 ⟨a,h0⟩=>?_
 refine (ZeW h0 base).bind fun r1 ⟨b,h1⟩=>?_
 refine .ret ⟨smL (by dsimp only [List.length_cons,List.length_nil];omega) (fun x hx=>?_),h1⟩
 rcases List.mem_cons.1 hx with rfl | hx
 ·exact a
 ·rw [List.mem_singleton] at hx
  rw [hx];exact b
theorem Zbm {s:Za} (hs:Src s) (k f t se:Int):Gets (Yf s k f t se) (fun r=>sm Zmv r.1∧Src r.2):=by
 unfold Yf
 split
 ·refine (Zf hs 10).bind fun r0 ⟨_,h0⟩=>?_
  refine (Zbg h0 _).bind fun r1 ⟨a,h1⟩=>?_
  exact .ret ⟨⟨trivial,trivial,trivial,trivial,a,smL (by simp) (by simp),trivial⟩,h1⟩
 ·refine (Zf hs 20).bind fun r0 ⟨_,h0⟩=>?_
  refine (Zbg h0 _).bind fun r1 ⟨a,h1⟩=>?_
  refine (Zbg h1 _).bind fun r2 ⟨b,h2⟩=>?_
  exact .ret ⟨⟨trivial,trivial,trivial,trivial,a,b,trivial⟩,h2⟩
theorem JE {c:QG} {pin b:Int} (hu:(0:Int)≤IntKind.wrap IntKind.u64 pin) (hbit:Wq ((1:Int)*(2:Int) ^ Min.min (Int.toNat (IntKind.wrap IntKind.u64 pin)) (IntKind.bits IntKind.i64))=b) (hL:(QG.Truth c).length≤8) (b0:0≤b) (b1:b≤8)
  (hb:∀ i:Int,0≤i→i<((QG.Truth c).length:Int)→Go.bits Go.BinOp.and IntKind.i64 i b=0→i+b<((QG.Truth c).length:Int)):Gets (X5 c pin) (fun _=>True):=by
 unfold X5
 refine .guard hu ?_
 refine Gets.loop (fun v=>0≤v.2.2.1∧v.2.2.1≤8) (fun v=>(8-v.2.2.1).toNat) ⟨by dsimp only;omega,by dsimp only;omega⟩ ?_
 rintro ⟨ra,lo,i,⟨⟩⟩ ⟨i0,i1⟩
 dsimp only at i0 i1
 show Gets (Xb c pin ra lo i) _
 unfold Xb
 have e1:Wq (i+1)=i+1:=XD (by omega) (by omega)
 have e2:Wq (i+b)=i+b:=XD (by omega) (by omega)
 simp only [hbit,e1,e2]
 split
 ·rename_i hi
  have nx:∀ r l:Bool,Gets (some (.inl (r,l,i+1,()):(Bool×Bool×Int×Unit) ⊕ Int)) (Rnd (fun v:Bool×Bool×Int×Unit=>0≤v.2.2.1∧v.2.2.1≤8) (fun v=>(8-v.2.2.1).toNat) (8-i).toNat (fun _=>True)):=fun r l =>
   .ret ⟨⟨by dsimp only;omega,by dsimp only;omega⟩,by dsimp only;omega⟩
  split
  ·rename_i hz
   have hlt:=hb i i0 hi hz
   repeat' first
    | exact nx _ _
    | split
    | refine Gets.at (by omega) (by omega) fun _ _ _=>?_
  ·exact nx _ _
 ·repeat' first
   | exact Gets.ret (show Rnd _ _ _ (fun _=>True) (.inr _) from trivial)
   | split
theorem eight {i:Int} (h0:0≤i) (h1:i<8):i=0∨i=1∨i=2∨i=3∨i=4∨i=5∨i=6∨i=7:=by omega
theorem Zii {c:QG} {pin:Int} (h:((QG.Truth c).length=2∧pin=0)∨((QG.Truth c).length=4∧(pin=0∨pin=1))∨((QG.Truth c).length=8∧(pin=0∨pin=1∨pin=2))):Gets (X5 c pin) (fun _=>True):=by
 have k0:∀ L:Int,(L=2∨L=4∨L=8)→∀ i:Int,0≤i→i<L→Go.bits Go.BinOp.and IntKind.i64 i 1=0→i+1<L:=by
  intro L hL i h0 h1 hz
  rcases eight h0 (by omega) with rfl | rfl | rfl | rfl | rfl | rfl | rfl | rfl<;>first | omega | exact absurd hz (by decide)
 have k1:∀ L:Int,(L=4∨L=8)→∀ i:Int,0≤i→i<L→Go.bits Go.BinOp.and IntKind.i64 i 2=0→i+2<L:=by
  intro L hL i h0 h1 hz
  rcases eight h0 (by omega) with rfl | rfl | rfl | rfl | rfl | rfl | rfl | rfl<;>first | omega | exact absurd hz (by decide)
 have k2:∀ L:Int,L=8→∀ i:Int,0≤i→i<L→Go.bits Go.BinOp.and IntKind.i64 i 4=0→i+4<L:=by
  intro L hL i h0 h1 hz
  rcases eight h0 (by omega) with rfl | rfl | rfl | rfl | rfl | rfl | rfl | rfl<;>first | omega | exact absurd hz (by decide)
 rcases h with ⟨hl,rfl⟩ | ⟨hl,rfl | rfl⟩ | ⟨hl,rfl | rfl | rfl⟩
 ·exact JE (b:=1) (by decide) (by decide) (by omega) (by omega) (by omega) (k0 _ (by omega))
 ·exact JE (b:=1) (by decide) (by decide) (by omega) (by omega) (by omega) (k0 _ (by omega))
 ·exact JE (b:=2) (by decide) (by decide) (by omega) (by omega) (by omega) (k1 _ (by omega))
 ·exact JE (b:=1) (by decide) (by decide) (by omega) (by omega) (by omega) (k0 _ (by omega))
 ·exact JE (b:=2) (by decide) (by decide) (by omega) (by omega) (by omega) (k1 _ (by omega))
 ·exact JE (b:=4) (by decide) (by decide) (by omega) (by omega) (by omega) (k2 _ (by omega))
theorem Zar {s:Za} (hs:Src s) {nm:List UInt8} (hn:nm.length≤5) {tr:List Int} (ht:tr.length=2∨tr.length=4∨tr.length=8):Gets (Y3 s nm tr) (fun r=>sm Zin r.1∧Src r.2):=by
 unfold Y3
 refine (Zf hs 50).bind fun r0 ⟨_,h0⟩=>?_
 refine (Zf h0 80).bind fun r1 ⟨_,h1⟩=>?_
 refine Gets.loop (fun v=>((v.1.length=0∧v.2.1=1)∨(v.1.length=1∧v.2.1=2)∨(v.1.length=2∧v.2.1=4)∨(v.1.length=3∧v.2.1=8))∧v.2.1≤(tr.length:Int)∧(∀ x∈v.1,sm Zl9 x)∧Src (v.2.2.1,v.2.2.2.1,v.2.2.2.2.1,())) (fun v=>(8-v.2.1).toNat)
  ⟨.inl ⟨rfl,rfl⟩,by dsimp only;omega,fun x hx=>(by cases hx),h1⟩ ?_
 rintro ⟨pins,n,c0,c1,c2,⟨⟩⟩ ⟨i1,i2,i3,i4⟩
 dsimp only at i1 i2 i3 i4
 show Gets (Xt nm tr r0 r1 pins n c0 c1 c2) _
 unfold Xt
 split
 ·rename_i hlt
  refine .at (by omega) (by simp only [List.length_cons,List.length_nil];omega) fun x hx _=>?_
  have hx1:x.length≤1:=by
   simp only [List.mem_cons,List.not_mem_nil,or_false] at hx
   rcases hx with rfl | rfl | rfl | rfl<;>exact Nat.le_refl _
  refine (Zf i4 9).bind fun r ⟨_,h2⟩=>?_
  have e1:Wq (2*n)=2*n:=XD (by omega) (by omega)
  rw [e1]
  refine .guard (by simp only [List.length_cons,List.length_nil];omega) (.ret ⟨⟨?_,by dsimp only;omega,Yi i3 ⟨smS (by (try dsimp only);omega),trivial,trivial,trivial,trivial⟩,h2⟩,by dsimp only;omega⟩)
  dsimp only
  simp only [List.length_append,List.length_cons,List.length_nil]
  omega
 ·refine .guard (by simp only [List.length_cons,List.length_nil];omega) ?_
  refine Gets.loop (fun v=>0≤v.2.1∧v.2.1≤3∧(v.1.length:Int)≤v.2.1∧(∀ x∈v.1,sm Zmv x)∧Src (v.2.2.1,v.2.2.2.1,v.2.2.2.2.1,())) (fun v=>(3-v.2.1).toNat) ⟨by dsimp only;omega,by dsimp only;omega,by dsimp only [List.length_nil];omega,fun x hx=>(by cases hx),i4⟩ ?_
  rintro ⟨arcs,p,d0,d1,d2,⟨⟩⟩ ⟨j0,j1,j2,j3,j4⟩
  dsimp only at j0 j1 j2 j3 j4
  show Gets (Xr nm tr r0 r1 pins arcs p d0 d1 d2) _
  unfold Xr
  have e1:Wq (p+1)=p+1:=XD (by omega) (by omega)
  rw [e1]
  split
  ·rename_i hp
   refine (Zii (by
    show (tr.length=2∧p=0)∨(tr.length=4∧(p=0∨p=1))∨(tr.length=8∧(p=0∨p=1∨p=2))
    omega)).bind fun se _=>?_
   split
   ·exact .ret ⟨⟨by dsimp only;omega,by dsimp only;omega,by dsimp only;omega,j3,j4⟩,by dsimp only;omega⟩
   ·refine (Zbm j4 1 p _ se).bind fun r ⟨ha,h2⟩=>?_
    refine .guard (by simp only [List.length_cons,List.length_nil];omega) (.ret ⟨⟨by dsimp only;omega,by dsimp only;omega,?_,Yi j3 ha,h2⟩,by dsimp only;omega⟩)
    dsimp only
    simp only [List.length_append,List.length_cons,List.length_nil]
    omega
  ·refine .ret ⟨⟨smS (by (try dsimp only);omega),trivial,smL ?_ (Yi i3 ⟨smS (by dsimp only [List.length_cons,List.length_nil];omega),trivial,trivial,trivial,trivial⟩),smL (by (try dsimp only);omega) j3,smI (by (try dsimp only);omega),trivial,trivial,trivial⟩,j4⟩
   (try dsimp only)
   simp only [List.length_append,List.length_cons,List.length_nil]
   omega
theorem Zde {s:Za} (hs:Src s) {nm:List UInt8} (hn:nm.length≤5) (k e:Int):Gets (Yq s nm k e) (fun r=>sm Zin r.1∧Src r.2):=by
 have hp:∀ a b:Int,sm (.sl Zl9) [([(100:UInt8)],(1:Int),a,Bool.false,()),([(99:UInt8),(107:UInt8)],(1:Int),b,Bool.true,()),([(113:UInt8)],(2:Int),(0:Int),Bool.false,())]:=fun a b=>by
  refine smL (by (try dsimp only);simp only [List.length_cons,List.length_nil];omega) (fun x hx=>?_)
  simp only [List.mem_cons,List.not_mem_nil,or_false] at hx
  rcases hx with rfl | rfl | rfl<;>exact ⟨smS (by simp only [List.length_cons,List.length_nil];omega),trivial,trivial,trivial,trivial⟩
 unfold Yq
 refine (Zf hs 50).bind fun r0 ⟨_,h0⟩=>?_
 refine (Zf h0 80).bind fun r1 ⟨_,h1⟩=>?_
 refine (Zf h1 9).bind fun r2 ⟨_,h2⟩=>?_
 refine (Zf h2 9).bind fun r3 ⟨_,h3⟩=>?_
 refine (Zbm h3 e 1 2 0).bind fun a0 ⟨g0,h4⟩=>?_
 refine (Zbm h4 4 1 0 0).bind fun a1 ⟨g1,h5⟩=>?_
 refine (Zbm h5 5 1 0 0).bind fun a2 ⟨g2,h6⟩=>?_
 have h3a:∀ x∈[a0.1,a1.1,a2.1],sm Zmv x:=fun x hx=>by
  simp only [List.mem_cons,List.not_mem_nil,or_false] at hx
  rcases hx with rfl | rfl | rfl
  ·exact g0
  ·exact g1
  ·exact g2
 split
 ·refine (Zbm h6 1 0 2 1).bind fun a3 ⟨g3,h7⟩=>?_
  refine .guard (by simp only [List.length_cons,List.length_nil];omega) (.ret ⟨⟨smS (by (try dsimp only);omega),trivial,hp _ _,smL (by (try dsimp only);simp only [List.length_append,List.length_cons,List.length_nil];omega) (Yi h3a g3),smI (by simp),trivial,trivial,trivial⟩,h7⟩)
 ·exact .ret ⟨⟨smS (by (try dsimp only);omega),trivial,hp _ _,smL (by (try dsimp only);simp only [List.length_cons,List.length_nil];omega) h3a,smI (by simp),trivial,trivial,trivial⟩,h6⟩
theorem ZkC {s:Za} (hs:Src s):Gets (Vf s) (fun r=>(sm Zc3 r.1∧(ZaF.Cells r.1).length=8)∧Src r.2):=by
 unfold Vf
 refine (Zar hs (by simp only [List.length_cons,List.length_nil];omega) (by simp)).bind fun r0 ⟨g0,h0⟩=>?_
 refine (Zar h0 (by simp only [List.length_cons,List.length_nil];omega) (by simp)).bind fun r1 ⟨g1,h1⟩=>?_
 refine (Zar h1 (by simp only [List.length_cons,List.length_nil];omega) (by simp)).bind fun r2 ⟨g2,h2⟩=>?_
 refine (Zar h2 (by simp only [List.length_cons,List.length_nil];omega) (by simp)).bind fun r3 ⟨g3,h3⟩=>?_
 refine (Zar h3 (by simp only [List.length_cons,List.length_nil];omega) (by simp)).bind fun r4 ⟨g4,h4⟩=>?_
 refine (Zde h4 (by simp only [List.length_cons,List.length_nil];omega) 2 2).bind fun r5 ⟨g5,h5⟩=>?_
 refine (Zde h5 (by simp only [List.length_cons,List.length_nil];omega) 2 3).bind fun r6 ⟨g6,h6⟩=>?_
 refine (Zde h6 (by simp only [List.length_cons,List.length_nil];omega) 3 2).bind fun r7 ⟨g7,h7⟩=>?_
 refine .ret ⟨⟨⟨smL (by (try dsimp only);simp only [List.length_cons,List.length_nil];omega) (fun x hx=>?_),trivial⟩,rfl⟩,h7⟩
 simp only [List.mem_cons,List.not_mem_nil,or_false] at hx
 rcases hx with rfl | rfl | rfl | rfl | rfl | rfl | rfl | rfl<;>assumption
/-
  Plain laws: what the draws of designs, wires and blocks yield.
-/
def Ziw (x:Zz):Prop:=(∃ r,Zz.Name x=117::r∧r.length≤2)∧(2≤(Zz.Zbh x).length∧(Zz.Zbh x).length≤4)
def ZnG (s:List UInt8):Prop:=∃ r,s=110::r∧r.length≤2
def Zkb (p:Zah):Prop:=(Zah.Name p).length≤2
structure Zll (d:Zp):Prop where
 n0:2≤(Zp.Instances d).length
 n1:(Zp.Instances d).length≤9
 inst:∀ x∈Zp.Instances d,Ziw x
 nl:(Zp.Zbh d).length=(Zp.Instances d).length+3
 net:∀ s∈Zp.Zbh d,ZnG s
 p0:4≤(Zp.Vk d).length
 p1:(Zp.Vk d).length≤5
 port:∀ p∈Zp.Vk d,Zkb p
theorem ZgJ {s:Za} (hs:Src s) {most:Int} (hm1:1≤most) (hm2:most≤8) (wild:Bool):Gets (Vh s most wild) (fun r=>Zll r.1∧Src r.2):=by
 unfold Vh
 have em:Wq (most-1)=most-1:=XD (by omega) (by omega)
 rw [em]
 refine (Zf hs _).bind fun r0 ⟨⟨a0,a1⟩,h0⟩=>?_
 have e:Wq (2+r0.1)=2+r0.1:=XD (by omega) (by omega)
 rw [e]
 have hN:2≤2+r0.1∧2+r0.1≤9:=by omega
 generalize 2+r0.1=N at hN
 refine Gets.loop (fun v=>0≤v.2.2.1∧(v.1.length:Int)+v.2.2.1=N∧v.2.1.length=v.1.length+3∧(∀ x∈v.1,Ziw x)∧(∀ x∈v.2.1,ZnG x)∧Src (v.2.2.2.1,v.2.2.2.2.1,v.2.2.2.2.2.1,())) (fun v=>v.2.2.1.toNat)
  ⟨by dsimp only;omega,by dsimp only [List.length_nil];omega,rfl,fun x hx=>(by cases hx),fun x hx=>?_,h0⟩ ?_
 ·simp only [List.nil_append,List.mem_cons,List.not_mem_nil,or_false] at hx
  rcases hx with rfl | rfl | rfl
  ·exact ⟨_,rfl,Nat.le_refl _⟩
  ·exact ⟨_,rfl,by simp⟩
  ·exact ⟨_,rfl,by simp⟩
 rintro ⟨ins,nets,n,c0,c1,c2,⟨⟩⟩ ⟨i1,i2,i3,i4,i5,i6⟩
 dsimp only at i1 i2 i3 i4 i5 i6
 show Gets (Xx wild ins nets n c0 c1 c2) _
 unfold Xx
 split
 ·rename_i hn
  refine (Zf i6 12).bind fun r ⟨⟨b0,b1⟩,h1⟩=>?_
  refine .at b0 (by simp only [List.length_cons,List.length_nil];omega) fun x hx _=>?_
  have hx7:0≤x∧x≤7:=by
   simp only [List.mem_cons,List.not_mem_nil,or_false] at hx
   omega
  refine (ZcZ (n:=(ins.length:Int)) (by omega) (by omega)).bind fun nm hnm=>?_
  refine .guard (by simp only [List.length_cons,List.length_nil];omega) ?_
  refine Gets.loop (fun v=>0≤v.1∧v.1≤3∧(v.2.2.2.2.1.length:Int)=v.1∧Src (v.2.1,v.2.2.1,v.2.2.2.1,())) (fun v=>(3-v.1).toNat) ⟨by dsimp only;omega,by dsimp only;omega,rfl,h1⟩ ?_
  rintro ⟨p,d0,d1,d2,l,⟨⟩⟩ ⟨j0,j1,j2,j3⟩
  dsimp only at j0 j1 j2 j3
  show Gets (Xv ins nets n x nm p d0 d1 d2 l) _
  unfold Xv
  refine .at hx7.1 (by simp only [List.length_cons,List.length_nil];omega) fun k hk _=>?_
  have hk4:2≤k∧k≤4:=by
   simp only [List.mem_cons,List.not_mem_nil,or_false] at hk
   omega
  have ek:Wq (k-1)=k-1:=XD (by omega) (by omega)
  have ep:Wq (p+1)=p+1:=XD (by omega) (by omega)
  have en:Wq (n-1)=n-1:=XD (by omega) (by omega)
  simp only [ek,ep,en]
  split
  ·rename_i hpk
   refine (Zf j3 _).bind fun r2 ⟨_,h2⟩=>?_
   refine (Zf h2 3).bind fun r3 ⟨_,h3⟩=>?_
   repeat' first
    | split
    | refine Gets.guard (by simp only [List.length_append,List.length_cons,List.length_nil];omega) ?_
    | exact .ret ⟨⟨by dsimp only;omega,by dsimp only;omega,by dsimp only;simp only [List.length_append,List.length_cons,List.length_nil];omega,h3⟩,by dsimp only;omega⟩
  ·refine .guard (by simp only [List.length_append,List.length_cons,List.length_nil];omega) ?_
   refine .guard (by simp only [List.length_append,List.length_cons,List.length_nil];omega) ?_
   refine (ZcZ (n:=(nets.length:Int)) (by omega) (by omega)).bind fun nn hnn=>?_
   refine .guard (by simp only [List.length_append,List.length_cons,List.length_nil];omega) ?_
   refine .guard (by simp only [List.length_append,List.length_cons,List.length_nil];omega) ?_
   refine .guard (by simp only [List.length_append,List.length_cons,List.length_nil];omega) ?_
   refine .ret ⟨⟨by dsimp only;omega,by dsimp only;simp only [List.length_append,List.length_cons,List.length_nil];omega,by dsimp only;simp only [List.length_append,List.length_cons,List.length_nil];omega,Yi i4 ⟨⟨nm,rfl,hnm⟩,?_⟩,Yi i5 ⟨nn,rfl,hnn⟩,j3⟩,by dsimp only;omega⟩
   show 2≤List.length ([]++l++[_])∧List.length ([]++l++[_])≤4
   simp only [List.length_append,List.length_cons,List.length_nil]
   omega
 ·rename_i hn
  refine Gets.loop (fun v=>0≤v.1∧v.1≤9∧v.2.2.2.2.1.length=ins.length∧(∀ x∈v.2.2.2.2.1,Ziw x)∧Src (v.2.1,v.2.2.1,v.2.2.2.1,())) (fun v=>(9-v.1).toNat) ⟨by dsimp only;omega,by dsimp only;omega,rfl,i4,i6⟩ ?_
  rintro ⟨p,d0,d1,d2,l,⟨⟩⟩ ⟨j0,j1,j2,j3,j4⟩
  dsimp only at j0 j1 j2 j3 j4
  show Gets (Xw wild nets p d0 d1 d2 l) _
  unfold Xw
  have ep:Wq (p+1)=p+1:=XD (by omega) (by omega)
  simp only [ep]
  split
  ·rename_i hp
   refine (Zf j4 4).bind fun r ⟨_,h1⟩=>?_
   split
   ·refine .at j0 hp fun x hx hxi=>?_
    have hxd:=j3 x hx
    have st:∀ v:Int,Gets ((Zc r.2 v).bind fun l01Next2=>(atI x.snd.snd.fst (0:Int)).bind fun x1=>some (.inl (p+1,l01Next2.snd.fst,l01Next2.snd.snd.fst,l01Next2.snd.snd.snd.fst,List.set l (Int.toNat p) (x.fst,x.snd.fst,List.set x.snd.snd.fst (Int.toNat (0:Int)) (Wq ((1:Int)+l01Next2.fst)),()),()):(Int×(List Int)×Int×Int×(List (List UInt8×Int×List Int×Unit))×Unit) ⊕ (((List Zz)×(List (List UInt8))×Int×(List Int)×Int×Int×Unit) ⊕ (Zp×Za))))
      (Rnd (fun v:Int×(List Int)×Int×Int×(List (List UInt8×Int×List Int×Unit))×Unit=>0≤v.1∧v.1≤9∧v.2.2.2.2.1.length=ins.length∧(∀ x∈v.2.2.2.2.1,Ziw x)∧Src (v.2.1,v.2.2.1,v.2.2.2.1,())) (fun v=>(9-v.1).toNat) (9-p).toNat
       (Rnd (fun v:(List Zz)×(List (List UInt8))×Int×(List Int)×Int×Int×Unit=>0≤v.2.2.1∧(v.1.length:Int)+v.2.2.1=N∧v.2.1.length=v.1.length+3∧(∀ x∈v.1,Ziw x)∧(∀ x∈v.2.1,ZnG x)∧Src (v.2.2.2.1,v.2.2.2.2.1,v.2.2.2.2.2.1,())) (fun v=>v.2.2.1.toNat) n.toNat (fun r=>Zll r.1∧Src r.2))):=fun v=>by
     refine (Zf h1 v).bind fun r2 ⟨_,h2⟩=>?_
     refine .at (by omega) (by have:=hxd.2.1;show (0:Int)<((Zz.Zbh x).length:Int);omega) fun _ _ _=>?_
     refine .ret ⟨⟨by dsimp only;omega,by dsimp only;omega,by dsimp only;rw [List.length_set];exact j2,Ze7 j3 ⟨hxd.1,?_⟩,h2⟩,by dsimp only;omega⟩
     show 2≤(List.set (Zz.Zbh x) _ _).length∧(List.set (Zz.Zbh x) _ _).length≤4
     rw [List.length_set]
     exact hxd.2
    repeat' first
     | exact st _
     | split
     | exact .ret ⟨⟨by dsimp only;omega,by dsimp only;omega,by dsimp only;rw [List.length_set];exact j2,Ze7 j3 hxd,h1⟩,by dsimp only;omega⟩
   ·exact .ret ⟨⟨by dsimp only;omega,by dsimp only;omega,j2,j3,h1⟩,by dsimp only;omega⟩
  ·refine .guard (by simp only [List.length_append,List.length_cons,List.length_nil];omega) ?_
   refine (Zf j4 2).bind fun r ⟨_,h1⟩=>?_
   have four:∀ a:Int,∀ p∈(([]:List (List UInt8×Int×Int×Unit))++[([(99:UInt8),(107:UInt8)],(1:Int),(0:Int),()),([(97:UInt8)],(1:Int),(1:Int),()),([(98:UInt8)],(1:Int),(2:Int),())]++[([(121:UInt8)],(2:Int),a,())]),Zkb p:=fun a p hp=>by
    simp only [List.nil_append,List.cons_append,List.mem_cons,List.not_mem_nil,or_false] at hp
    unfold Zkb
    rcases hp with rfl | rfl | rfl | rfl
    ·exact Nat.le_refl 2
    ·show 1≤2;omega
    ·show 1≤2;omega
    ·show 1≤2;omega
   split
   ·refine (Zf h1 _).bind fun r2 ⟨_,h2⟩=>?_
    refine .guard (by simp only [List.length_append,List.length_cons,List.length_nil];omega) ?_
    refine .ret ⟨⟨?_,?_,j3,?_,i5,?_,?_,Yi (four _) (show 1≤2 by omega)⟩,h2⟩
    ·show 2≤l.length;omega
    ·show l.length≤9;omega
    ·show nets.length=l.length+3;omega
    ·show 4≤List.length (_++_++_++_);simp only [List.length_append,List.length_cons,List.length_nil];omega
    ·show List.length (_++_++_++_)≤5;simp only [List.length_append,List.length_cons,List.length_nil];omega
   ·refine .ret ⟨⟨?_,?_,j3,?_,i5,?_,?_,four _⟩,h1⟩
    ·show 2≤l.length;omega
    ·show l.length≤9;omega
    ·show nets.length=l.length+3;omega
    ·show 4≤List.length (_++_++_);simp only [List.length_append,List.length_cons,List.length_nil];omega
    ·show List.length (_++_++_)≤5;simp only [List.length_append,List.length_cons,List.length_nil];omega
theorem Zll.few {d:Zp} (h:Zll d):Few d:=⟨by have:=h.n1;omega,by have:=h.p1;omega,fun x hx=>by have:=(h.inst x hx).2.2;omega⟩
theorem Zll.sm {d:Zp} (h:Zll d):sm ZdN d:=by
 have:=h.n1;have:=h.p1;have:=h.nl
 refine ⟨smL (by show (Zp.Instances d).length≤_;omega) (fun x hx=>?_),smL (by show (Zp.Zbh d).length≤_;omega) (fun x hx=>?_),smL (by show (Zp.Vk d).length≤_;omega) (fun x hx=>?_),trivial⟩
 ·obtain ⟨⟨r,e,hr⟩,h2⟩:=h.inst x hx
  refine ⟨smS ?_,trivial,smI ?_,trivial⟩
  ·show (Zz.Name x).length≤_
   rw [e,List.length_cons];omega
  ·show (Zz.Zbh x).length≤_
   omega
 ·obtain ⟨r,e,hr⟩:=h.net x hx
  refine smS ?_
  rw [e,List.length_cons];omega
 ·have:=h.port x hx
  unfold Zkb at this
  exact ⟨smS (by show (Zah.Name x).length≤_;omega),trivial,trivial,trivial⟩
def Ziz (w:QH):Prop:=(1≤(QH.Parent w).length∧(QH.Parent w).length≤4)∧(QH.Res w).length=(QH.Parent w).length∧(QH.Cap w).length=(QH.Parent w).length∧(QH.ZnH w).length≤100
theorem Ziz.sm {w:QH} (h:Ziz w):sm ZjY w:=by
 obtain ⟨h1,h2,h3,h4⟩:=h
 exact ⟨smI (by show (QH.Parent w).length≤_;omega),smI (by show (QH.Res w).length≤_;omega),smI (by show (QH.Cap w).length≤_;omega),smI (by show (QH.ZnH w).length≤_;omega),trivial⟩
theorem ZgS (l:List Int) (h:l.length≤1048576):XT l=some l:=by
 have h2:((([]:List Int).length+l.length)*8≤140737488355328):=by simp only [List.length_nil];omega
 unfold XT
 first
  | (rw [ZB h2,List.nil_append])
  | (rw [ZB h2];rfl)
  | rfl
theorem Zj6 {s:Za} (hs:Src s) {k:Int} (h0:0≤k) (h1:k≤100):Gets (Xi s k) (fun r=>Ziz r.1∧Src r.2):=by
 unfold Xi
 refine (Zf hs 6).bind fun r0 ⟨_,g0⟩=>?_
 have hl:Qi k r0.1=some ([(-1:Int)],[(0:Int)],[r0.1],List.replicate (Int.toNat k) (0:Int),()):=by
  unfold Qi
  rw [ZB (by omega),ZB (by omega),ZB (by omega),ZB (by omega)]
 rw [hl,Bq]
 refine (Zf g0 4).bind fun r1 ⟨⟨a,b⟩,g1⟩=>?_
 refine Gets.loop (fun v=>0≤v.1∧(v.2.2.2.2.1.length:Int)+v.1=1+r1.1∧1≤v.2.2.2.2.1.length∧v.2.2.2.2.2.1.length=v.2.2.2.2.1.length∧v.2.2.2.2.2.2.1.length=v.2.2.2.2.1.length∧v.2.2.2.2.2.2.2.1.length≤100∧Src (v.2.1,v.2.2.1,v.2.2.2.1,())) (fun v=>v.1.toNat)
  ⟨a,by show ((1:Nat):Int)+r1.1=1+r1.1;omega,Nat.le_refl _,rfl,rfl,by show (List.replicate (Int.toNat k) (0:Int)).length≤100;rw [List.length_replicate];omega,g1⟩ ?_
 rintro ⟨n,c0,c1,c2,l1,l2,l3,l4,⟨⟩⟩ ⟨i0,i1,i2,i3,i4,i5,i6⟩
 dsimp only at i0 i1 i2 i3 i4 i5 i6
 show Gets (Yx n c0 c1 c2 l1 l2 l3 l4) _
 unfold Yx
 have en:Wq (n-1)=n-1:=XD (by omega) (by omega)
 simp only [en]
 split
 ·rw [ZgS l1 (by omega),Bq,ZgS l2 (by omega),ZgS l3 (by omega)]
  refine (Zf i6 _).bind fun r2 ⟨_,h2⟩=>?_
  refine .guard (by simp only [List.length_append,List.length_cons,List.length_nil];omega) ?_
  rw [Bq]
  refine (Zf h2 _).bind fun r3 ⟨_,h3⟩=>?_
  refine .guard (by simp only [List.length_append,List.length_cons,List.length_nil];omega) ?_
  rw [Bq]
  refine (Zf h3 _).bind fun r4 ⟨_,h4⟩=>?_
  refine .guard (by simp only [List.length_append,List.length_cons,List.length_nil];omega) ?_
  refine .ret ⟨⟨by dsimp only;omega,?_,?_,?_,?_,i5,h4⟩,by dsimp only;omega⟩
  all_goals
   dsimp only
   simp only [List.length_append,List.length_cons,List.length_nil]
   omega
 ·refine Gets.loop (fun v=>0≤v.1∧v.1≤100∧v.2.2.2.2.1.length=l4.length∧Src (v.2.1,v.2.2.1,v.2.2.2.1,())) (fun v=>(100-v.1).toNat) ⟨by dsimp only;omega,by dsimp only;omega,rfl,i6⟩ ?_
  rintro ⟨p,d0,d1,d2,l,⟨⟩⟩ ⟨j0,j1,j2,j3⟩
  dsimp only at j0 j1 j2 j3
  show Gets (Yw l1 l2 l3 p d0 d1 d2 l) _
  unfold Yw
  have ep:Wq (p+1)=p+1:=XD (by omega) (by omega)
  simp only [ep]
  split
  ·rename_i hp
   refine (Zf j3 _).bind fun r2 ⟨_,h2⟩=>?_
   refine .at j0 hp fun _ _ _=>?_
   exact .ret ⟨⟨by dsimp only;omega,by dsimp only;omega,by dsimp only;rw [List.length_set];exact j2,h2⟩,by dsimp only;omega⟩
  ·refine .ret ⟨⟨⟨?_,?_⟩,i3,i4,?_⟩,j3⟩
   ·exact i2
   ·show l1.length≤4;omega
   ·show l.length≤100;omega
structure ZfM (b:Zv):Prop where
 lib:sm Zc3 (Zv.Library b)
 des:Zll (Zv.Design b)
 wl:(Zv.ZlA b).length=(Zp.Zbh (Zv.Design b)).length
 wires:∀ w∈Zv.ZlA b,Ziz w
theorem ZfM.sm {b:Zv} (h:ZfM b):sm ZjX b:=by
 have:=h.wl;have:=h.des.nl;have:=h.des.n1
 exact ⟨h.lib,h.des.sm,smL (by show (Zv.ZlA b).length≤_;omega) (fun w hw=>(h.wires w hw).sm),trivial⟩
theorem ZeD {s:Za} (hs:Src s) {most:Int} (hm1:1≤most) (hm2:most≤8) (wild:Bool):Gets (Qz s most wild) (fun r=>ZfM r.1∧Src r.2):=by
 unfold Qz
 refine (ZkC hs).bind fun r0 ⟨hl,h0⟩=>?_
 refine (ZgJ h0 hm1 hm2 wild).bind fun r1 ⟨hd,h1⟩=>?_
 have hnl:=hd.nl
 have hn1:=hd.n1
 refine Gets.loop (fun v=>0≤v.2.1∧v.2.1≤((Zp.Zbh r1.1).length:Int)∧(v.1.length:Int)=v.2.1∧(∀ w∈v.1,Ziz w)∧Src (v.2.2.1,v.2.2.2.1,v.2.2.2.2.1,())) (fun v=>(100-v.2.1).toNat)
  ⟨by dsimp only;omega,by dsimp only;omega,rfl,fun w hw=>(by cases hw),h1⟩ ?_
 rintro ⟨ws,n,c0,c1,c2,⟨⟩⟩ ⟨i0,i1,i2,i3,i4⟩
 dsimp only at i0 i1 i2 i3 i4
 show Gets (Xy r0 r1 ws n c0 c1 c2) _
 unfold Xy
 have en:Wq (n+1)=n+1:=XD (by omega) (by omega)
 simp only [en]
 split
 ·rename_i hn
  have hn:n<((Zp.Zbh r1.1).length:Int):=hn
  rw [ZcT r1.1 n hd.few,Bq]
  have hsl:(sinks r1.1 n).length≤78:=Nat.le_trans (Zgm n (places r1.1) 0) (Zck hd.few)
  refine (Zj6 i4 (k:=((sinks r1.1 n).length:Int)) (by omega) (by omega)).bind fun r ⟨hw,h2⟩=>?_
  refine .guard (by simp only [List.length_append,List.length_cons,List.length_nil];omega) (.ret ⟨⟨by dsimp only;omega,by dsimp only;omega,?_,Yi i3 hw,h2⟩,by dsimp only;omega⟩)
  dsimp only
  simp only [List.length_append,List.length_cons,List.length_nil]
  omega
 ·rename_i hn
  have hn:¬n<((Zp.Zbh r1.1).length:Int):=hn
  refine .ret ⟨⟨hl.1,hd,?_,i3⟩,i4⟩
  show ws.length=(Zp.Zbh r1.1).length
  omega
/-
  Plain laws: what the draws of edits yield.
-/
def DN (d:Zp):Prop:=(Zp.Zbh d).length=(ZpY d).length+3∧(∃ r,(ZpY d)[0]?=some (117::r))∧∃ r,(Zp.Zbh d)[3]?=some (110::r)
theorem Zll.dn {d:Zp} (h:Zll d):DN d:=by
 have hn:=h.n0
 have hx:=List.getElem?_eq_getElem (show 0<(Zp.Instances d).length by omega)
 generalize (Zp.Instances d)[0]=x at hx
 have hs:=List.getElem?_eq_getElem (show 3<(Zp.Zbh d).length by have:=h.nl;omega)
 generalize (Zp.Zbh d)[3]'(by have:=h.nl;omega)=s at hs
 obtain ⟨⟨r,e,_⟩,_⟩:=h.inst x (List.mem_of_getElem? hx)
 obtain ⟨r2,e2,_⟩:=h.net s (List.mem_of_getElem? hs)
 refine ⟨by unfold ZpY;rw [List.length_map];exact h.nl,⟨r,?_⟩,⟨r2,by rw [hs,e2]⟩⟩
 unfold ZpY
 rw [List.getElem?_map,hx]
 exact congrArg some e
theorem ZAn {d d':Zp} (h:DN d) (h1:ZpY d'=ZpY d) (h2:Zp.Zbh d'=Zp.Zbh d):DN d':=by
 unfold DN
 rw [h1,h2]
 exact h
def Zyx (b:Zv):Prop:=sm ZjX b∧(ZvC b→Zv.ZlA b≠[]→DN (Zv.Design b))
theorem DN.insts {d:Zp} (h:DN d):1≤(Zp.Instances d).length:=by
 obtain ⟨_,⟨r,e⟩,_⟩:=h
 have:=(List.getElem?_eq_some_iff.1 e).1
 unfold ZpY at this
 rw [List.length_map] at this
 omega
noncomputable def tl (b:Zv) (P:List Zk) (k p c n d:Int) (nm:List UInt8) (w:QH) (s:Za):Option (Zbk×Za) :=
 (Zc s (30:Int)).bind fun r =>
 if r.fst=(0:Int) then
  (Zc r.snd (7:Int)).bind fun r2=>some ((r2.fst,p,c,n,d,nm,w,()),r2.snd)
 else
  if r.fst=(1:Int) then
   (Zc r.snd (10:Int)).bind fun r2=>some ((k,p,Wq (r2.fst-(1:Int)),n,d,nm,w,()),r2.snd)
  else
   if r.fst=(2:Int) then
    (Zc r.snd (Wq ((↑(List.length (Zv.ZlA b)):Int)+(2:Int)))).bind fun r2=>some ((k,p,c,Wq (r2.fst-(1:Int)),d,nm,w,()),r2.snd)
   else
    if r.fst=(3:Int) then
     (Zc r.snd (Wq ((↑(List.length P):Int)+(2:Int)))).bind fun r2=>some ((k,Wq (r2.fst-(1:Int)),c,n,d,nm,w,()),r2.snd)
    else
     if r.fst=(4:Int) then
      some ((k,p,c,n,d,[(66:UInt8),(97:UInt8),(100:UInt8)],w,()),r.snd)
     else
      some ((k,p,c,n,d,nm,w,()),r.snd)
/-
  Plain laws: drawn edits applied; an edit, followed by its inverse, restores the block: the law FnEditInverse.
-/
theorem ZFD {s:Za} (hs:Src s):Gets (Ztk s) (fun r=>(Zyx r.1∧Few (Zv.Design r.1))∧Src r.2):=by
 unfold Ztk
 refine (Zf hs 3).bind fun r0 ⟨_,h0⟩=>?_
 refine (ZeD h0 (most:=6) (by omega) (by omega) _).bind fun r1 ⟨hb,h1⟩=>?_
 obtain ⟨bl,bd,bw,bwi⟩:=hb
 have hdn:=bd.dn
 have hnl:=bd.nl
 have hn0:=bd.n0
 have hn1:=bd.n1
 have hwl:5≤(Zv.ZlA r1.1).length∧(Zv.ZlA r1.1).length≤12:=by omega
 refine (Zf h1 _).bind fun r2 ⟨⟨a0,a1⟩,h2⟩=>?_
 have a1:r2.1<((Zv.ZlA r1.1).length:Int):=by
  have a1:r2.1<((Zv.ZlA r1.1).length:Int)∨r2.1=0:=a1
  omega
 refine (Zf h2 20).bind fun r3 ⟨_,h3⟩=>?_
 have sw:∀ w∈Zv.ZlA r1.1,sm ZjY w:=fun w hw=>(bwi w hw).sm
 have set_:∀ (w:QH),sm ZjY w→sm (.sl ZjY) (List.set (Zv.ZlA r1.1) (Int.toNat r2.1) w):=fun w hw=>smL (by rw [List.length_set];omega) (Ze7 sw hw)
 have fin:∀ (ws:List QH) (t:Za),sm (.sl ZjY) ws→Src t→Gets (some ((r1.1.1,r1.1.2.1,ws,()),t)) (fun r:Zv×Za=>(Zyx r.1∧Few (Zv.Design r.1))∧Src r.2):=fun ws t hw ht =>
  .ret ⟨⟨⟨Zs0 bl bd.sm hw,fun _ _=>hdn⟩,bd.few⟩,ht⟩
 refine Gets.ite (fun _=>?_) (fun _=>?_)
 ·refine .guard (by show (1:Int)≤((Zv.ZlA r1.1).length:Int);omega) (.guard (Int.le_refl _) ?_)
  refine fin _ _ (smL ?_ (fun w hw=>sw w ?_)) h3
  ·show (List.take _ (List.drop _ (Zv.ZlA r1.1))).length≤_
   rw [List.length_take,List.length_drop];omega
  ·exact List.mem_of_mem_drop (List.mem_of_mem_take hw)
 refine Gets.ite (fun _=>?_) (fun _=>?_)
 ·refine .at a0 a1 fun w hw _=>?_
  obtain ⟨⟨w1,w2⟩,w3,w4,w5⟩:=bwi w hw
  have w5:(w.snd.snd.snd.fst).length≤100:=w5
  rw [ZgS _ (by omega),Bq]
  refine .guard (by simp only [List.length_cons,List.length_nil];omega) (fin _ _ (set_ _ ?_) h3)
  refine ZuG (by show (QH.Parent w).length≤_;omega) (by show (QH.Res w).length≤_;omega) (by show (QH.Cap w).length≤_;omega) ?_
  rw [List.length_append]
  simp only [List.length_cons,List.length_nil]
  omega
 refine Gets.ite (fun _=>?_) (fun _=>?_)
 ·refine .at a0 a1 fun w hw _=>?_
  obtain ⟨⟨w1,w2⟩,w3,w4,w5⟩:=bwi w hw
  refine .at (by omega) (by show (0:Int)<((QH.Res w).length:Int);omega) fun _ _ _=>fin _ _ (set_ _ ?_) h3
  refine ZuG (by show (QH.Parent w).length≤_;omega) (by show (List.set (QH.Res w) _ _).length≤_;rw [List.length_set];omega) (by show (QH.Cap w).length≤_;omega) (by show (QH.ZnH w).length≤_;omega)
 refine Gets.ite (fun _=>?_) (fun _=>?_)
 ·refine .at a0 a1 fun w hw _=>?_
  obtain ⟨⟨w1,w2⟩,w3,w4,w5⟩:=bwi w hw
  refine (Zf h3 3).bind fun r4 ⟨⟨b0,b1⟩,h4⟩=>?_
  refine .at b0 (by simp only [List.length_cons,List.length_nil];omega) fun _ _ _=>?_
  refine .at (by omega) (by show (0:Int)<((QH.Cap w).length:Int);omega) fun _ _ _=>fin _ _ (set_ _ ?_) h4
  refine ZuG (by show (QH.Parent w).length≤_;omega) (by show (QH.Res w).length≤_;omega) (by show (List.set (QH.Cap w) _ _).length≤_;rw [List.length_set];omega) (by show (QH.ZnH w).length≤_;omega)
 refine Gets.ite (fun _=>?_) (fun _=>?_)
 ·refine .at a0 a1 fun w hw _=>?_
  obtain ⟨⟨w1,w2⟩,w3,w4,w5⟩:=bwi w hw
  refine (Zf h3 5).bind fun r4 ⟨_,h4⟩=>?_
  have ew:Wq (((QH.Parent w).length:Int)-1)=((QH.Parent w).length:Int)-1:=XD (by omega) (by omega)
  refine .at (by show (0:Int)≤Wq (((QH.Parent w).length:Int)-1);omega) (by show Wq (((QH.Parent w).length:Int)-1)<((QH.Parent w).length:Int);omega) fun _ _ _=>fin _ _ (set_ _ ?_) h4
  refine ZuG (by show (List.set (QH.Parent w) _ _).length≤_;rw [List.length_set];omega) (by show (QH.Res w).length≤_;omega) (by show (QH.Cap w).length≤_;omega) (by show (QH.ZnH w).length≤_;omega)
 refine Gets.ite (fun _=>?_) (fun _=>?_)
 ·refine .at (by omega) (by show (0:Int)<((Zp.Vk (Zv.Design r1.1)).length:Int);have:=bd.p0;omega) fun p hp _=>?_
  obtain ⟨s1,s2,s3⟩:=Zrk bd.sm
  have hpd:=bd.port p hp
  unfold Zkb at hpd
  refine .ret ⟨⟨⟨Zs0 bl (Ztr s1 s3 ?_) (smL (by show (Zv.ZlA r1.1).length≤_;omega) sw),fun _ _=>ZAn hdn rfl rfl⟩,⟨bd.few.insts,by show (List.set (Zp.Vk (Zv.Design r1.1)) _ _).length≤_;rw [List.length_set];exact bd.few.ports,bd.few.nets⟩⟩,h3⟩
  refine smL (by show (List.set (Zp.Vk (Zv.Design r1.1)) _ _).length≤_;rw [List.length_set];have:=bd.p1;omega) (Ze7 s2.2 ⟨smS (by show (Zah.Name p).length≤_;omega),trivial,trivial,trivial⟩)
 ·exact fin _ _ (smL (by show (Zv.ZlA r1.1).length≤_;omega) sw) h3
theorem Zzj {s:Za} (hs:Src s):Gets (Ztk s) (fun r=>Zyx r.1∧Src r.2):=(ZFD hs).mono fun _ h=>⟨h.1.1,h.2⟩
theorem bytesD {code:List Int} (hb:bnd (.sl (.int .u8)) code):∀ x∈code,0≤x∧x≤255:=fun x hx=>hb.2 x hx
/-
  Plain laws: dice that follow from a code.
-/
theorem bits_mask (x:Int):0≤Go.bits .and .u64 x 16777215∧Go.bits .and .u64 x 16777215≤16777215:=by
 have e:Go.bits .and .u64 x 16777215=IntKind.u64.wrap (((BitVec.ofInt 64 x &&& BitVec.ofInt 64 16777215).toNat:Nat):Int):=rfl
 have h:(BitVec.ofInt 64 x &&& BitVec.ofInt 64 16777215).toNat≤16777215:=by
  rw [BitVec.toNat_and]
  exact Nat.and_le_right
 rw [e,IntWalk.u64_in _ ⟨by omega,by omega⟩]
 omega
structure ZDQ (d:ZhV):Prop where
 b:∀ x∈ZhV.b d,0≤x∧x≤255
 i:0≤ZhV.i d
theorem ZDI {code:List Int} (hc:∀ x∈code,0≤x∧x≤255) (hl:code.length≤4096) (seed:Int):Gets (ZCN code seed) ZDQ:=by
 unfold ZCN
 refine Gets.loop (fun v=>0≤v.1∧v.1≤4096) (fun v=>(4096-v.1).toNat) ⟨Int.le_refl _,by dsimp only;omega⟩ ?_
 rintro ⟨i,c,⟨⟩⟩ ⟨i0,i1⟩
 dsimp only at i0 i1
 show Gets (ZCG code i c) _
 unfold ZCG
 have en:Wq (i+1)=i+1:=XD (by omega) (by omega)
 rw [en]
 refine Gets.ite (fun hi=>?_) (fun _=>.ret (show ZDQ (code,(0:Int),c,()) from ⟨hc,Int.le_refl _⟩))
 exact .at i0 hi fun x _ _=>.ret ⟨⟨by dsimp only;omega,by dsimp only;omega⟩,by dsimp only;omega⟩
theorem ZDE {d:ZhV} (hd:ZDQ d) {n:Int} (hn:1≤n):Gets (ZCF d n) (fun r=>0≤r.1∧r.1<n):=by
 unfold ZCF
 obtain ⟨m0,m1⟩:=bits_mask (Int.fdiv (IntKind.wrap IntKind.u64 (IntKind.wrap IntKind.u64 (ZhV.h d*(6364136223846793005:Int))+(1442695040888963407:Int))) ((2:Int) ^ Min.min (Int.toNat (33:Int)) (IntKind.bits IntKind.u64)))
 generalize Go.bits .and .u64 (Int.fdiv (IntKind.wrap IntKind.u64 (IntKind.wrap IntKind.u64 (ZhV.h d*(6364136223846793005:Int))+(1442695040888963407:Int))) ((2:Int) ^ Min.min (Int.toNat (33:Int)) (IntKind.bits IntKind.u64))) 16777215=m at m0 m1
 have em:Wq m=m:=XD (by omega) (by omega)
 rw [em]
 refine Gets.ite (fun hi=>?_) (fun _=>?_)
 ·refine .at hd.i hi fun x hx _=>?_
  obtain ⟨b0,b1⟩:=hd.b x hx
  have ex:Wq x=x:=XD (by omega) (by omega)
  have es:Wq (m+x)=m+x:=XD (by omega) (by omega)
  rw [ex,es]
  exact .guard (by omega) (.ret ⟨Int.tmod_nonneg _ (by omega),Int.tmod_lt_of_pos _ (by omega)⟩)
 ·exact .guard (by omega) (.ret ⟨Int.tmod_nonneg _ (by omega),Int.tmod_lt_of_pos _ (by omega)⟩)
/-
  Plain laws: the loads of a net, in program and reference.
-/
theorem ZFq {b:Zv} (h:ZqJ b) {v:Nat} {w:QH} (hw:(Zv.ZlA b)[v]?=some w):ZEe b (v:Int)=ZDY b (v:Int):=by
 have hf:=h.ok.1.few
 unfold ZEe ZDY
 rw [VU,hw,Bq,Bq,show XT (QH.Cap w)=Zpk (QH.Cap w) from rfl,JF _ hf,Zpj _ hf,ZcT _ _ hf,Zvn _ _ hf]
 refine congrArg (Option.bind _) ?_
 funext l
 rw [Bq,Bq,Bq,Bq]
 refine congrArg (fun f=>ZA f _) ?_
 funext u
 obtain ⟨i,l,⟨⟩⟩:=u
 simp only [ZEh,ZD0]
 split
 ·cases atI (sinks (Zv.Design b) (v:Int)) i with
  | none =>
   cases atI (QH.ZnH w) i with
   | none=>rfl
   | some z =>
    simp only [Bq,Option.bind_none]
    cases atI l z<;>rfl
  | some y =>
   cases atI (QH.ZnH w) i with
   | none=>rfl
   | some z =>
    simp only [Bq]
    cases atI l z with
    | none=>rfl
    | some q=>rfl
 ·rfl
/-
  Plain laws: how great loads are.
-/
def ZEv:List Int→Int
 | []=>0
 | x::r=>x+ZEv r
theorem ZEZ:∀ l r:List Int,ZEv (l++r)=ZEv l+ZEv r
 | [],r=>by show ZEv r=0+ZEv r;omega
 | x::l,r=>by
  show x+ZEv (l++r)=x+ZEv l+ZEv r
  rw [ZEZ l r];omega
theorem ZFg:∀ {l:List Int} {i:Nat} {x:Int} (c:Int),l[i]?=some x→ZEv (l.set i (x+c))=ZEv l+c
 | [],i,x,c,h=>by simp at h
 | y::l,0,x,c,h=>by
  have:y=x:=by simpa using h
  subst this
  show y+c+ZEv l=y+ZEv l+c
  omega
 | y::l,i+1,x,c,h=>by
  show y+ZEv (l.set i (x+c))=y+ZEv l+c
  rw [ZFg c (by simpa using h)]
  omega
theorem ZFf:∀ {l:List Int},(∀ x∈l,0≤x)→0≤ZEv l∧∀ x∈l,x≤ZEv l
 | [],_=>⟨Int.le_refl _,fun x hx=>by cases hx⟩
 | y::l,h=>by
  obtain ⟨h1,h2⟩:=ZFf (l:=l) fun x hx=>h x (List.mem_cons_of_mem _ hx)
  have hy:=h y List.mem_cons_self
  refine ⟨by show 0≤y+ZEv l;omega,fun x hx=>?_⟩
  show x≤y+ZEv l
  rcases List.mem_cons.1 hx with rfl | hx
  ·omega
  ·have:=h2 x hx;omega
theorem ZFu:∀ {l:List Int} {c:Int},(∀ x∈l,x≤c)→ZEv l≤(l.length:Int)*c
 | [],c,_=>by show (0:Int)≤((0:Nat):Int)*c;simp
 | y::l,c,h=>by
  have h1:=ZFu (l:=l) (c:=c) fun x hx=>h x (List.mem_cons_of_mem _ hx)
  have h2:=h y List.mem_cons_self
  show y+ZEv l≤((l.length+1:Nat):Int)*c
  rw [show ((l.length+1:Nat):Int)=(l.length:Int)+1 by omega,Int.add_mul,Int.one_mul]
  omega
theorem ZEw {l:List Int} {i:Nat} {x y:Int} (h:y∈l.set i x):y=x∨y∈l:=(List.mem_or_eq_of_mem_set h).symm
theorem ZFj {a:ZaF} {d:Zp} (h:Zqm a d) {x:Pl} (hx:x∈places d):∃ n,ZEb d a x=some n∧0≤n∧n≤500:=by
 unfold ZEb
 split
 ·exact ⟨_,rfl,by omega,by omega⟩
 ·rename_i hneg
  unfold places at hx
  rcases List.mem_append.1 hx with hx | hx
  ·obtain ⟨i,z,hi,hz⟩:=Zug.1 hx
   unfold ZeJ at hz
   obtain ⟨j,n,hj,hn⟩:=Zug.1 hz
   simp only [List.mem_singleton] at hn
   subst hn
   rw [Nat.zero_add] at hneg
   obtain ⟨hc,⟨c,hc1,hc2⟩,_⟩:=h.2.2.1 z (List.mem_of_getElem? hi)
   have hj2:=(List.getElem?_eq_some_iff.1 hj).1
   have hpins:=(h.1.2.1 c (List.mem_of_getElem? hc1)).2.1
   simp only [Zbl.instance,Zbl.pin,Nat.zero_add,VU,hi,Bq]
   rw [Zkf hc.1 hc1,Bq]
   have hp:(QG.ZoY c)[j]?=some (QG.ZoY c)[j]:=List.getElem?_eq_getElem (by omega)
   rw [hp,Bq]
   have hb:=(hpins.2.2.2 j _ hp).1
   exact ⟨_,rfl,hb.1,hb.2⟩
  ·obtain ⟨j,p,hj,hp⟩:=Zug.1 hx
   simp only [ZdA,List.mem_singleton] at hp
   subst hp
   exact absurd (by show (-1:Int)<0;omega) hneg
theorem ZFi {b:Zv} (h:ZqJ b) {k:Nat} {w:QH} (hw:(Zv.ZlA b)[k]?=some w):∃ r,ZDY b (k:Int)=some r∧r.length=(QH.Parent w).length∧∀ x∈r,0≤x∧x≤43000:=by
 have hW:=h.ok.2.2 k w hw
 have hD:=h.ok.1
 have hf:=hD.few
 obtain ⟨⟨l1,l8⟩,lr,lc,ls,ht,ar,ac,asn⟩:=hW
 have hpl:=Zck hf
 have hsl:=Zgm (k:Int) (places (Zv.Design b)) 0
 have hsl2:(sinks (Zv.Design b) (k:Int)).length≤78:=by unfold sinks;omega
 have hc0:ZEv (QH.Cap w)≤4000:=by
  have:=ZFu (l:=QH.Cap w) (c:=500) fun x hx=>(ac x hx).2
  omega
 unfold ZDY
 rw [VU,hw,Bq]
 unfold Zpk
 rw [ZB (by simp;omega),Bq,Zpj _ hf,Bq,Zvn _ _ hf,Bq,List.nil_append]
 refine ZFy (l:=sinks (Zv.Design b) (k:Int)) (fun m v=>v.1=(m:Int)∧v.2.1.length=(QH.Parent w).length∧(∀ x∈v.2.1,0≤x)∧ZEv v.2.1≤4000+(m:Int)*500) _ ⟨rfl,by simp;omega,fun x hx=>(ac x hx).1,by simp only;omega⟩ ?_ ?_
 ·rintro m y ⟨i,l,⟨⟩⟩ hy hm ⟨hi,hl,hnn,hsum⟩
  simp only at hi hl hnn hsum
  subst hi
  have hz:(QH.ZnH w)[m]?=some (QH.ZnH w)[m]:=List.getElem?_eq_getElem (by omega)
  generalize (QH.ZnH w)[m]=z at hz
  have hz2:=asn z (List.mem_of_getElem? hz)
  obtain ⟨q,hq1,hq2⟩:=ZFx (l:=l) hz2.1 (by omega)
  obtain ⟨hy1,hy2⟩:=ZFv (List.mem_of_getElem? hy)
  obtain ⟨p,hp1,hp2⟩:=ZFx hy1 hy2
  obtain ⟨c,hc,c0,c5⟩:=ZFj hD hp2
  have hq0:=hnn q hq2
  have hqs:=(ZFf hnn).2 q hq2
  have hq3:l[z.toNat]?=some q:=by
   unfold atI at hq1
   rw [if_pos hz2.1] at hq1
   exact hq1
  simp only [ZD0,show (m:Int)<((sinks (Zv.Design b) (k:Int)).length:Int) from by omega,if_true,VU,hy,hz,Bq,hq1,hp1,hc]
  rw [XD (n:=q+c) (by omega) (by omega)]
  refine ⟨_,rfl,by rw [Zkd (by omega)],by simp [hl],fun x hx=>?_,?_⟩
  ·rcases ZEw hx with rfl | hx
   ·omega
   ·exact hnn x hx
  ·simp only
   rw [ZFg c hq3]
   omega
 ·rintro ⟨i,l,⟨⟩⟩ ⟨hi,hl,hnn,hsum⟩
  simp only at hi hl hnn hsum
  subst hi
  simp only [ZD0,Int.lt_irrefl,if_false]
  have hT:ZEv l≤43000:=by omega
  have hall:∀ x∈l,0≤x∧x≤43000:=fun x hx=>⟨hnn x hx,by have:=(ZFf hnn).2 x hx;omega⟩
  have:=ZeX (σ:=Int×List Int×Unit) (ρ:=(Int×List Int×Unit) ⊕ List Int) (step:=fun v=>ZDZ w v.1 v.2.1) (fun v=>(∃ j:Nat,v.1=(j:Int)∧j<(QH.Parent w).length∧ZEv (v.2.1.take (j+1))≤43000)∧v.2.1.length=(QH.Parent w).length∧∀ x∈v.2.1,0≤x∧x≤43000) (fun v=>v.1.toNat) (fun r=>∃ r',r=.inr r'∧r'.length=(QH.Parent w).length∧∀ x∈r',0≤x∧x≤43000) (v:=(Wq ((l.length:Int)-1),l,()))
   ⟨⟨l.length-1,by show Wq _=_;rw [ZAd (by omega) (by omega)],by omega,by simp only;rw [List.take_of_length_le (by omega)];exact hT⟩,hl,hall⟩
   (by
    rintro ⟨i,l,⟨⟩⟩ ⟨⟨j,hj,hj2,hjs⟩,hl,hall⟩
    simp only at hj hl hjs hall
    subst hj
    simp only [ZDZ]
    by_cases h0:(0:Int)<(j:Int)
    ·rw [if_pos h0]
     have hp:(QH.Parent w)[j]?=some (QH.Parent w)[j]:=List.getElem?_eq_getElem (by omega)
     generalize (QH.Parent w)[j]=p at hp
     have hp2:=(ht j p hp).2 (by omega)
     obtain ⟨q,hq1,hq2⟩:=ZFx (l:=l) hp2.1 (by omega)
     have hq3:l[p.toNat]?=some q:=by
      unfold atI at hq1
      rw [if_pos hp2.1] at hq1
      exact hq1
     have hl2:l[j]?=some l[j]:=List.getElem?_eq_getElem (by omega)
     generalize l[j]=y at hl2
     have hy:=hall y (List.mem_of_getElem? hl2)
     have hq:=hall q hq2
     simp only [VU,hp,Bq,hq1,hl2]
     rw [XD (n:=q+y) (by omega) (by omega)]
     have hqt:(l.take j)[p.toNat]?=some q:=by rw [List.getElem?_take,if_pos (by omega)];exact hq3
     have hnew:ZEv ((l.set p.toNat (q+y)).take j)≤43000:=by
      rw [List.take_set,ZFg y hqt]
      rw [JI hl2,ZEZ] at hjs
      have:ZEv [y]=y:=by show y+0=y;omega
      omega
     have hnn2:∀ x∈(l.set p.toNat (q+y)).take j,0≤x:=fun x hx=>by
      rcases ZEw (List.mem_of_mem_take hx) with rfl | hx
      ·omega
      ·exact (hall x hx).1
     have hqy:q+y≤43000:=by
      have hmem:q+y∈(l.set p.toNat (q+y)).take j:=by
       refine List.mem_of_getElem? (i:=p.toNat) ?_
       rw [List.getElem?_take,if_pos (by omega),List.getElem?_set_self (by omega)]
      have:=(ZFf hnn2).2 _ hmem
      omega
     left
     refine ⟨_,rfl,⟨⟨j-1,by rw [ZAd (by omega) (by omega)],by omega,?_⟩,by simp [hl],fun x hx=>?_⟩,?_⟩
     ·simp only
      rw [show j-1+1=j by omega]
      exact hnew
     ·rcases ZEw hx with rfl | hx
      ·exact ⟨by omega,hqy⟩
      ·exact hall x hx
     ·show (Wq ((j:Int)-1)).toNat<((j:Int)).toNat
      rw [ZAd (by omega) (by omega)];omega
    ·rw [if_neg h0]
     right
     exact ⟨_,rfl,_,rfl,hl,hall⟩)
  obtain ⟨r,h1,r',rfl,h3⟩:=this
  exact ⟨r',h1,h3⟩
/-
  Plain ground: bounds of products.
-/
theorem ZFw {a b A B:Int} (h1:0≤a) (h2:a≤A) (h3:0≤b) (h4:b≤B):0≤a*b∧a*b≤A*B :=
 ⟨Int.mul_nonneg h1 h3,Int.mul_le_mul h2 h4 h3 (by omega)⟩
/-
  Plain laws: the Zoo of a net's nodes, in program and reference.
-/
def dlF (w:QH) (ld:List Int):Nat→List Int
 | 0=>[0]
 | m+1=>dlF w ld m++[((dlF w ld m)[(((QH.Parent w)[m+1]?).getD 0).toNat]?).getD 0+(((QH.Res w)[m+1]?).getD 0)*((ld[m+1]?).getD 0)]
theorem ZEl (w:QH) (ld:List Int):∀ m,(dlF w ld m).length=m+1
 | 0=>rfl
 | m+1=>by show (dlF w ld m++[_]).length=_;rw [List.length_append,ZEl w ld m];rfl
theorem ZFk {l:List Int} {lo hi:Int} (h:∀ x∈l,lo≤x∧x≤hi) (h1:lo≤0) (h2:0≤hi) (i:Nat):lo≤(l[i]?).getD 0∧(l[i]?).getD 0≤hi:=by
 cases e:l[i]? with
 | none=>exact ⟨h1,h2⟩
 | some x=>exact h x (List.mem_of_getElem? e)
theorem ZFs {w:QH} {ld:List Int} (hr:∀ x∈QH.Res w,0≤x∧x≤1000) (hl:∀ x∈ld,0≤x∧x≤43000):∀ m,∀ x∈dlF w ld m,0≤x∧x≤(m:Int)*43000000
 | 0,x,hx=>by
  have:x=0:=by simpa [dlF] using hx
  subst this
  omega
 | m+1,x,hx=>by
  have hm:=ZFs hr hl m
  rcases List.mem_append.1 (show x∈dlF w ld m++[_] from hx) with hx | hx
  ·have:=hm x hx;omega
  ·rw [List.mem_singleton.1 hx]
   have a:=ZFk hm (by omega) (by omega) (((QH.Parent w)[m+1]?).getD 0).toNat
   have b:=ZFk hr (by omega) (by omega) (m+1)
   have c:=ZFk hl (by omega) (by omega) (m+1)
   have d:=ZFw b.1 b.2 c.1 c.2
   omega
structure ZFn (b:Zv) (k:Nat) (w:QH) (ld:List Int):Prop where
 wire:(Zv.ZlA b)[k]?=some w
 n1:1≤(QH.Parent w).length
 n8:(QH.Parent w).length≤8
 nr:(QH.Res w).length=(QH.Parent w).length
 nl:ld.length=(QH.Parent w).length
 par:∀ (m:Nat),m+1<(QH.Parent w).length→∃ p,(QH.Parent w)[m+1]?=some p∧0≤p∧p≤(m:Int)
 res:∀ x∈QH.Res w,0≤x∧x≤1000
 lds:∀ x∈ld,0≤x∧x≤43000
 snk:∀ x∈QH.ZnH w,0≤x∧x≤((QH.Parent w).length:Int)-1
 few:(QH.ZnH w).length≤1048576
 prog:ZDY b (k:Int)=some ld
 ref:ZEe b (k:Int)=some ld
theorem ZFA {b:Zv} (h:ZqJ b) {k:Nat} {w:QH} (hw:(Zv.ZlA b)[k]?=some w):∃ ld,ZFn b k w ld:=by
 have hW:=h.ok.2.2 k w hw
 obtain ⟨⟨l1,l8⟩,lr,lc,ls,ht,ar,ac,asn⟩:=hW
 obtain ⟨nl,hnl,hnl2,hbd⟩:=ZFi h hw
 have hsm:=Zo9 (Zv3 (ZqC (Zrd h.sm).2.2 hw)).2.2.2
 refine ⟨nl,hw,l1,l8,lr,hnl2,fun m hm=>?_,ar,hbd,asn,by omega,hnl,by rw [ZFq h hw,hnl]⟩
 have hp:(QH.Parent w)[m+1]?=some ((QH.Parent w)[m+1]'hm):=List.getElem?_eq_getElem _
 have:=(ht (m+1) _ hp).2 (by omega)
 exact ⟨_,hp,this.1,by omega⟩
def ndl (w:QH) (ld:List Int):List Int:=dlF w ld ((QH.Parent w).length-1)
theorem ZFn.len {b:Zv} {k:Nat} {w:QH} {ld:List Int} (h:ZFn b k w ld):(ndl w ld).length=(QH.Parent w).length:=by
 have:=h.n1
 unfold ndl
 rw [ZEl];omega
theorem ZFn.bd {b:Zv} {k:Nat} {w:QH} {ld:List Int} (h:ZFn b k w ld):∀ x∈ndl w ld,0≤x∧x≤301000000:=fun x hx=>by
 have:=ZFs h.res h.lds _ x hx
 have:=h.n1
 have:=h.n8
 omega
theorem ZFn.step {b:Zv} {k:Nat} {w:QH} {ld:List Int} (h:ZFn b k w ld) {m:Nat} (hm:m+1<(QH.Parent w).length) :
  ∃ p r l q,(QH.Parent w)[m+1]?=some p∧(QH.Res w)[m+1]?=some r∧ld[m+1]?=some l∧0≤p∧p≤(m:Int)∧(dlF w ld m)[p.toNat]?=some q∧Wq (q+Wq (r*l))=q+r*l∧dlF w ld (m+1)=dlF w ld m++[q+r*l]:=by
 obtain ⟨p,hp,p0,p1⟩:=h.par m hm
 have hr:(QH.Res w)[m+1]?=some ((QH.Res w)[m+1]'(by have:=h.nr;omega)):=List.getElem?_eq_getElem _
 have hl:ld[m+1]?=some (ld[m+1]'(by have:=h.nl;omega)):=List.getElem?_eq_getElem _
 have hq:(dlF w ld m)[p.toNat]?=some ((dlF w ld m)[p.toNat]'(by rw [ZEl];omega)):=List.getElem?_eq_getElem _
 have b1:=h.res _ (List.mem_of_getElem? hr)
 have b2:=h.lds _ (List.mem_of_getElem? hl)
 have b3:=ZFs h.res h.lds m _ (List.mem_of_getElem? hq)
 generalize (QH.Res w)[m+1]'(by have:=h.nr;omega)=r at *
 generalize ld[m+1]'(by have:=h.nl;omega)=l at *
 generalize (dlF w ld m)[p.toNat]'(by rw [ZEl];omega)=q at *
 have b4:=ZFw b1.1 b1.2 b2.1 b2.2
 have:=h.n8
 refine ⟨p,r,l,q,hp,hr,hl,p0,p1,hq,by rw [XD (n:=r*l) (by omega) (by omega),XD (by omega) (by omega)],?_⟩
 show dlF w ld m++[_]=_
 rw [hp,hr,hl]
 simp only [Option.getD_some]
 rw [hq]
 rfl
theorem ZFm {b:Zv} {k:Nat} {w:QH} {ld:List Int} (h:ZFn b k w ld):ZEf b (k:Int)=some (ndl w ld):=by
 have hn:=h.nl
 have h1:=h.n1
 have h8:=h.n8
 unfold ZEf
 rw [VU,h.wire,Bq,h.ref,Bq]
 refine XC ((QH.Parent w).length-1) (fun m v=>v=(dlF w ld m,((m+1:Nat):Int),())) _ rfl ?_ ?_
 ·rintro m _ hm rfl
  obtain ⟨p,r,l,q,e1,e2,e3,p0,p1,e4,e5,e6⟩:=h.step (m:=m) (by omega)
  have e4':atI (dlF w ld m) p=some q:=Zkf p0 e4
  simp only [ZEc,show ((m+1:Nat):Int)<(ld.length:Int) from by omega,if_true,VU,e1,e2,e3,e4',Bq,e5]
  rw [ZB (by rw [ZEl];simp only [List.length_cons,List.length_nil];omega),Zkd (by omega)]
  exact .inl ⟨_,rfl,by rw [e6]⟩
 ·rintro _ rfl
  simp only [ZEc,show ¬(((QH.Parent w).length-1+1:Nat):Int)<(ld.length:Int) from by omega,if_false]
  rfl
theorem ZFl {b:Zv} {k:Nat} {w:QH} {ld:List Int} (h:ZFn b k w ld):ZD5 b (k:Int)=some (ndl w ld):=by
 have hn:=h.nl
 have h1:=h.n1
 have h8:=h.n8
 unfold ZD5
 rw [VU,h.wire,Bq,h.prog,Bq,ZB (by omega),ZB (by omega),ZB (by omega),ZB (by omega)]
 refine XC ((QH.Parent w).length-1) (fun m v=>v=(((m+1:Nat):Int),dlF w ld m++List.replicate ((QH.Parent w).length-1-m) (0:Int),())) _ ?_ ?_ ?_
 ·rw [Int.toNat_natCast,hn]
  simp only [Prod.mk.injEq,and_true]
  refine ⟨rfl,?_⟩
  show List.replicate (QH.Parent w).length (0:Int)=[0]++List.replicate ((QH.Parent w).length-1-0) 0
  rw [show (QH.Parent w).length=((QH.Parent w).length-1)+1 by omega,List.replicate_succ]
  simp
 ·rintro m _ hm rfl
  obtain ⟨p,r,l,q,e1,e2,e3,p0,p1,e4,e5,e6⟩:=h.step (m:=m) (by omega)
  have hlen:=ZEl w ld m
  have e4':atI (dlF w ld m++List.replicate ((QH.Parent w).length-1-m) (0:Int)) p=some q:=Zkf p0 (by rw [List.getElem?_append_left (by omega)];exact e4)
  have e7:(dlF w ld m++List.replicate ((QH.Parent w).length-1-m) (0:Int))[m+1]?=some 0:=by
   rw [List.getElem?_append_right (by omega),hlen,List.getElem?_replicate,if_pos (by omega)]
  have hl2:(dlF w ld m++List.replicate ((QH.Parent w).length-1-m) (0:Int)).length=(QH.Parent w).length:=by
   rw [List.length_append,List.length_replicate];omega
  simp only [ZD4,hl2,show ((m+1:Nat):Int)<((QH.Parent w).length:Int) from by omega,if_true,VU,e1,e2,e3,e4',e7,Bq,e5]
  rw [Zkd (by omega)]
  refine .inl ⟨_,rfl,?_⟩
  simp only [Prod.mk.injEq,and_true,true_and,Int.toNat_natCast]
  rw [e6,List.set_append_right _ _ (by omega),hlen,show (QH.Parent w).length-1-m=((QH.Parent w).length-1-(m+1))+1 by omega,List.replicate_succ,Nat.sub_self,List.set_cons_zero,List.append_assoc]
  rfl
 ·rintro _ rfl
  have hl2:(dlF w ld ((QH.Parent w).length-1)++List.replicate ((QH.Parent w).length-1-((QH.Parent w).length-1)) (0:Int)).length=(QH.Parent w).length:=by
   rw [List.length_append,List.length_replicate,ZEl];omega
  simp only [ZD4,hl2,show ¬(((QH.Parent w).length-1+1:Nat):Int)<((QH.Parent w).length:Int) from by omega,if_false]
  rw [Nat.sub_self,List.replicate_zero,List.append_nil]
  rfl
/-
  Plain laws: with a greater capacitance the loads grow, and with greater loads and resistances the Zoo.
-/
theorem ZFc {σ τ ρ π:Type} {s1:σ→Option (σ ⊕ ρ)} {s2:τ→Option (τ ⊕ π)} (R:σ→τ→Prop) (Q:ρ→π→Prop)
  (hs:∀ a b,R a b→∀ x y,s1 a=some x→s2 b=some y→(∃ a' b',x=.inl a'∧y=.inl b'∧R a' b')∨∃ p q,x=.inr p∧y=.inr q∧Q p q) :
  ∀ {a:σ} {b:τ},R a b→∀ {r:ρ} {q:π},ZA s1 a=some r→ZA s2 b=some q→Q r q:=by
 intro a b h0 r q h1 h2
 rw [J9] at h1
 obtain ⟨n,hn⟩:=h1
 revert a b
 induction n with
 | zero=>intro a b h0 h2 hn;simp [iterM] at hn
 | succ n ih =>
  intro a b h0 h2 hn
  simp only [iterM] at hn
  rw [Zgz] at h2
  cases e1:s1 a with
  | none=>rw [e1] at hn;cases hn
  | some x =>
   cases e2:s2 b with
   | none=>rw [e2] at h2;cases h2
   | some y =>
    rw [e1] at hn
    rw [e2] at h2
    rcases hs a b h0 x y e1 e2 with ⟨a',b',rfl,rfl,h⟩ | ⟨p,q',rfl,rfl,h⟩
    ·exact ih h h2 hn
    ·injection hn with hn
     injection h2 with h2
     rw [←hn,←h2]
     exact h
theorem ZFh (n:Int):∃ q:Int,Wq n=n+18446744073709551616*q∧-9223372036854775808≤Wq n∧Wq n≤9223372036854775807:=by
 rw [show Wq n=_ from IntKind.wrap_i64 n]
 exact ⟨-((n+9223372036854775808) / 18446744073709551616),by omega,by omega,by omega⟩
theorem wr2 (a b c e:Int):Wq (Wq (a+b)+Wq (c+e))=Wq (Wq (a+c)+(b+e)):=by
 obtain ⟨q1,e1,l1,u1⟩:=ZFh (a+b)
 obtain ⟨q2,e2,l2,u2⟩:=ZFh (c+e)
 obtain ⟨q3,e3,l3,u3⟩:=ZFh (a+c)
 obtain ⟨q4,e4,l4,u4⟩:=ZFh (Wq (a+b)+Wq (c+e))
 obtain ⟨q5,e5,l5,u5⟩:=ZFh (Wq (a+c)+(b+e))
 omega
theorem wr1 (a b c:Int):Wq (Wq (a+b)+c)=Wq (Wq (a+c)+b):=by
 obtain ⟨q1,e1,l1,u1⟩:=ZFh (a+b)
 obtain ⟨q3,e3,l3,u3⟩:=ZFh (a+c)
 obtain ⟨q4,e4,l4,u4⟩:=ZFh (Wq (a+b)+c)
 obtain ⟨q5,e5,l5,u5⟩:=ZFh (Wq (a+c)+b)
 omega
theorem ZEA {α:Type} {l:List α} {i:Int} {x:α} (h:atI l i=some x):0≤i∧l[i.toNat]?=some x:=by
 unfold atI at h
 by_cases q:0≤i
 ·rw [if_pos q] at h;exact ⟨q,h⟩
 ·rw [if_neg q] at h;cases h
def Shf (d:Nat→Int) (l l':List Int):Prop:=l'.length=l.length∧∀ (i:Nat) (x y:Int),l[i]?=some x→l'[i]?=some y→y=Wq (x+d i)
theorem Shf.set {d d':Nat→Int} {l l':List Int} {i:Nat} {x y:Int} (h:Shf d l l') (hd:∀ j,j≠i→d' j=d j) (hv:y=Wq (x+d' i)):Shf d' (l.set i x) (l'.set i y):=by
 refine ⟨by rw [List.length_set,List.length_set,h.1],fun j u v hu hv'=>?_⟩
 by_cases q:i=j
 ·subst q
  have h1:=(List.getElem?_eq_some_iff.1 hu).1
  have h2:=(List.getElem?_eq_some_iff.1 hv').1
  rw [List.length_set] at h1 h2
  rw [List.getElem?_set_self h1] at hu
  rw [List.getElem?_set_self h2] at hv'
  injection hu with hu
  injection hv' with hv'
  rw [←hu,←hv']
  exact hv
 ·rw [List.getElem?_set_ne q] at hu hv'
  rw [hd j (Ne.symm q)]
  exact h.2 j u v hu hv'
def Grow (δ:Int) (r r':List Int):Prop:=∃ d:Nat→Int,Shf d r r'∧(∀ i,d i=0∨d i=δ)∧d 0=δ
theorem ZFt {w w':QH} {δ:Int} (hp:QH.Parent w'=QH.Parent w) (h8:(QH.Parent w).length≤8)
  (ht:∀ (m:Nat),m+1<(QH.Parent w).length→∃ p,(QH.Parent w)[m+1]?=some p∧0≤p∧p≤(m:Int)) {j0 t0:Nat} {l0 l0':List Int} (hj0:j0<(QH.Parent w).length) (ht0:t0≤j0)
  (h0:Shf (fun i=>if i=t0 then δ else 0) l0 l0') {x y:(Int×(List Int)×Unit) ⊕ List Int}
  (e1:ZA (fun v:Int×(List Int)×Unit=>ZDZ w v.1 v.2.1) ((j0:Int),l0,())=some x)
  (e2:ZA (fun v:Int×(List Int)×Unit=>ZDZ w' v.1 v.2.1) ((j0:Int),l0',())=some y):∃ r r',x=.inr r∧y=.inr r'∧Grow δ r r':=by
 refine ZFc (fun a b=>∃ (j t:Nat) (l l':List Int) (d:Nat→Int),a=((j:Int),l,())∧b=((j:Int),l',())∧j<(QH.Parent w).length∧Shf d l l'∧(∀ i,d i=0∨d i=δ)∧t≤j∧∀ i,i≤j→d i=if i=t then δ else 0)
  (fun x y=>∃ r r',x=.inr r∧y=.inr r'∧Grow δ r r') ?_ ⟨j0,t0,l0,l0',_,rfl,rfl,hj0,h0,fun i=>?_,ht0,fun i _=>rfl⟩ e1 e2
 ·rintro _ _ ⟨j,t,l,l',d,rfl,rfl,hj,hS,hd,htj,hone⟩ x y e1 e2
  simp only [ZDZ,hp] at e1 e2
  by_cases hj1:(0:Int)<(j:Int)
  ·rw [if_pos hj1] at e1 e2
   obtain ⟨p,hpj,p0,p1⟩:=ht (j-1) (by omega)
   rw [show j-1+1=j by omega] at hpj
   rw [VU,hpj,Bq] at e1 e2
   obtain ⟨q,hq,e1⟩:=Option.bind_eq_some_iff.1 e1
   obtain ⟨z,hz,e1⟩:=Option.bind_eq_some_iff.1 e1
   obtain ⟨q',hq',e2⟩:=Option.bind_eq_some_iff.1 e2
   obtain ⟨z',hz',e2⟩:=Option.bind_eq_some_iff.1 e2
   rw [ZAd (by omega) (by omega)] at e1 e2
   injection e1 with e1
   injection e2 with e2
   have sq:=hS.2 _ _ _ (ZEA hq).2 (ZEA hq').2
   rw [VU] at hz hz'
   have sz:=hS.2 _ _ _ hz hz'
   have hpj2:p.toNat≤j-1:=by omega
   left
   refine ⟨_,_,e1.symm,e2.symm,j-1,if t=j then p.toNat else t,_,_,fun i=>if i=p.toNat then d p.toNat+d j else d i,rfl,rfl,by omega,hS.set (fun i hi=>?_) ?_,fun i=>?_,?_,fun i hi=>?_⟩
   ·rw [if_neg hi]
   ·show Wq (q'+z')=Wq (Wq (q+z)+(if p.toNat=p.toNat then d p.toNat+d j else d p.toNat))
    rw [if_pos rfl,sq,sz]
    exact wr2 _ _ _ _
   ·have a1:=hone p.toNat (by omega)
    have a2:=hone j (Nat.le_refl _)
    simp only
    by_cases c:i=p.toNat
    ·rw [if_pos c]
     by_cases c2:t=j
     ·rw [if_neg (by omega)] at a1
      rw [if_pos c2.symm] at a2
      rw [a1,a2]
      exact .inr (by omega)
     ·rw [if_neg (by omega)] at a2
      rw [a2,Int.add_zero]
      exact hd _
    ·rw [if_neg c]
     exact hd i
   ·by_cases c2:t=j
    ·rw [if_pos c2];exact hpj2
    ·rw [if_neg c2];omega
   ·have a1:=hone p.toNat (by omega)
    have a2:=hone j (Nat.le_refl _)
    have a3:=hone i (by omega)
    simp only
    by_cases c2:t=j
    ·rw [if_pos c2]
     rw [if_neg (by omega)] at a1
     rw [if_pos c2.symm] at a2
     by_cases c:i=p.toNat
     ·rw [if_pos c,if_pos c,a1,a2];omega
     ·rw [if_neg c,if_neg c,a3,if_neg (by omega)]
    ·rw [if_neg c2]
     rw [if_neg (by omega)] at a2
     by_cases c:i=p.toNat
     ·rw [if_pos c,a2,Int.add_zero,a1,c]
     ·rw [if_neg c,a3]
  ·rw [if_neg hj1] at e1 e2
   injection e1 with e1
   injection e2 with e2
   right
   have a:=hone 0 (by omega)
   rw [if_pos (by omega)] at a
   exact ⟨_,_,e1.symm,e2.symm,_,_,rfl,rfl,d,hS,hd,a⟩
 ·by_cases c:i=t0
  ·rw [if_pos c];exact .inr rfl
  ·rw [if_neg c];exact .inl rfl
theorem ZFp {b r:Zv} (hb:ZqJ b) (hlib:Zv.Library r=Zv.Library b) (hdes:Zv.Design r=Zv.Design b) {v:Nat} {w w':QH} {ld ld':List Int} (h:ZFn b v w ld) (h':ZFn r v w' ld') (hp:QH.Parent w'=QH.Parent w) (hk:QH.ZnH w'=QH.ZnH w)
  (hl:(QH.Cap w).length=(QH.Parent w).length) {k:Nat} {x δ:Int} (hx:(QH.Cap w)[k]?=some x) (hc:QH.Cap w'=(QH.Cap w).set k (x+δ)) (hcb:∀ y∈QH.Cap w,0≤y∧y≤500) (h0:0≤δ) (h1:δ≤7):Grow δ ld ld':=by
 have hf:=hb.ok.1.few
 have n1:=h.n1
 have n8:=h.n8
 have e1:=h.prog
 have e2:=h'.prog
 have hkl:=(List.getElem?_eq_some_iff.1 hx).1
 have hxb:=hcb x (List.mem_of_getElem? hx)
 unfold ZDY at e1 e2
 rw [VU,h.wire,Bq] at e1
 rw [VU,h'.wire,Bq] at e2
 unfold Zpk at e1 e2
 rw [ZB (by simp;omega),Bq,Zpj _ hf,Bq,Zvn _ _ hf,Bq,List.nil_append] at e1
 rw [hdes,hc,ZB (by simp;omega),Bq,Zpj _ hf,Bq,Zvn _ _ hf,Bq,List.nil_append] at e2
 refine ZFc (fun a b=>∃ (i:Int) (l l':List Int),a=(i,l,())∧b=(i,l',())∧l.length=(QH.Parent w).length∧Shf (fun i=>if i=k then δ else 0) l l') (Grow δ) ?_ ⟨0,_,_,rfl,rfl,hl,by rw [List.length_set],fun i y z hy hz=>?_⟩ e1 e2
 ·rintro _ _ ⟨i,l,l',rfl,rfl,hll,hS⟩ x y e1 e2
  simp only [ZD0,hk,hdes,hlib] at e1 e2
  by_cases hi:i<((sinks (Zv.Design b) (v:Int)).length:Int)
  ·rw [if_pos hi] at e1 e2
   obtain ⟨s,hs,e1⟩:=Option.bind_eq_some_iff.1 e1
   rw [hs,Bq] at e2
   obtain ⟨z,hz,e1⟩:=Option.bind_eq_some_iff.1 e1
   rw [hz,Bq] at e2
   obtain ⟨q,hq,e1⟩:=Option.bind_eq_some_iff.1 e1
   obtain ⟨q',hq',e2⟩:=Option.bind_eq_some_iff.1 e2
   obtain ⟨p,hpp,e1⟩:=Option.bind_eq_some_iff.1 e1
   rw [hpp,Bq] at e2
   obtain ⟨c,hcc,e1⟩:=Option.bind_eq_some_iff.1 e1
   rw [hcc,Bq] at e2
   injection e1 with e1
   injection e2 with e2
   have sq:=hS.2 _ _ _ (ZEA hq).2 (ZEA hq').2
   left
   refine ⟨_,_,e1.symm,e2.symm,_,_,_,rfl,rfl,by rw [List.length_set];exact hll,hS.set (fun _ _=>rfl) ?_⟩
   rw [sq]
   exact wr1 _ _ _
  ·rw [if_neg hi] at e1 e2
   rw [hll,show Wq (((QH.Parent w).length:Int)-1)=(((QH.Parent w).length-1:Nat):Int) from ZAd (by omega) n1] at e1
   rw [hS.1,hll,show Wq (((QH.Parent w).length:Int)-1)=(((QH.Parent w).length-1:Nat):Int) from ZAd (by omega) n1] at e2
   obtain ⟨r1,r2,rfl,rfl,g⟩:=ZFt hp n8 h.par (by omega) (show k≤(QH.Parent w).length-1 by omega) hS e1 e2
   exact .inr ⟨_,_,rfl,rfl,g⟩
 ·simp only
  have hyb:=hcb y (List.mem_of_getElem? hy)
  by_cases c:i=k
  ·subst c
   rw [hx] at hy
   injection hy with hy
   rw [List.getElem?_set_self hkl] at hz
   injection hz with hz
   rw [if_pos rfl,XD (by omega) (by omega)]
   omega
  ·rw [List.getElem?_set_ne (Ne.symm c),hy] at hz
   injection hz with hz
   rw [if_neg c,XD (by omega) (by omega)]
   omega
theorem Grow.plain {δ:Int} {r r':List Int} (h:Grow δ r r') (h0:0≤δ) (h1:δ≤7) (hb:∀ x∈r,0≤x∧x≤43000):r'.length=r.length∧(∀ i:Nat,(r[i]?).getD 0≤(r'[i]?).getD 0)∧∀ x y,r[0]?=some x→r'[0]?=some y→y=x+δ:=by
 obtain ⟨d,⟨hl,hs⟩,hd,hd0⟩:=h
 refine ⟨hl,fun i=>?_,fun x y hx hy=>?_⟩
 ·cases hx:r[i]? with
  | none =>
   have h1:r.length≤i:=List.getElem?_eq_none_iff.1 hx
   rw [List.getElem?_eq_none (by omega)]
   exact Int.le_refl _
  | some x =>
   have hlt:=(List.getElem?_eq_some_iff.1 hx).1
   have hy:r'[i]?=some (r'[i]'(by omega)):=List.getElem?_eq_getElem _
   have e:=hs i _ _ hx hy
   have hb:=hb x (List.mem_of_getElem? hx)
   rw [hy,e]
   have hdi:=hd i
   simp only [Option.getD_some]
   rw [XD (by omega) (by omega)]
   omega
 ·have e:=hs 0 _ _ hx hy
  have hb:=hb x (List.mem_of_getElem? hx)
  rw [e,hd0,XD (by omega) (by omega)]
theorem ZFo {w w':QH} {ld ld':List Int} (hp:QH.Parent w'=QH.Parent w) (hr:∀ i:Nat,((QH.Res w)[i]?).getD 0≤((QH.Res w')[i]?).getD 0) (hl:∀ i:Nat,(ld[i]?).getD 0≤(ld'[i]?).getD 0)
  (h0:∀ i:Nat,0≤((QH.Res w')[i]?).getD 0) (h1:∀ i:Nat,0≤(ld[i]?).getD 0):∀ m i:Nat,((dlF w ld m)[i]?).getD 0≤((dlF w' ld' m)[i]?).getD 0
 | 0,i=>Int.le_refl _
 | m+1,i=>by
  have ih:=ZFo hp hr hl h0 h1 m
  have l1:=ZEl w ld m
  have l2:=ZEl w' ld' m
  show ((dlF w ld m++[_])[i]?).getD 0≤((dlF w' ld' m++[_])[i]?).getD 0
  by_cases c:i<m+1
  ·rw [List.getElem?_append_left (by omega),List.getElem?_append_left (by omega)]
   exact ih i
  ·by_cases c2:i=m+1
   ·subst c2
    rw [List.getElem?_append_right (by omega),List.getElem?_append_right (by omega),l1,l2,Nat.sub_self]
    simp only [List.getElem?_cons_zero,Option.getD_some]
    rw [hp]
    have a:=ih (((QH.Parent w)[m+1]?).getD 0).toNat
    have b:=Int.mul_le_mul (hr (m+1)) (hl (m+1)) (h1 _) (h0 _)
    omega
   ·rw [List.getElem?_eq_none (by rw [List.length_append,l1,List.length_singleton];omega),List.getElem?_eq_none (by rw [List.length_append,l2,List.length_singleton];omega)]
    exact Int.le_refl _
/-
  Plain laws: with a greater resistance or capacitance no delay of the wire decreases: the law FnWireGrows.
-/
theorem ZFr (b:Zv) (hb:sm ZjX b) (n:Int):∃ c,ZEa b n=some c∧ZEj b n=some c∧(c=0→ZvC b∧Zre (Zv.Design b) n):=by
 obtain ⟨_,b2,b3⟩:=Zrd hb
 have s3:=Zo9 b3
 unfold ZEa ZEj
 rw [Zua b hb,Zrz b hb,Bq,Bq]
 by_cases h:ZvC b
 ·rw [if_pos (ZcF h),if_pos (ZcF h),Zsu _ _ b2,ZrJ,Bq,Bq]
  have hw:=h.2.1
  rw [XD (n:=((Zv.ZlA b).length:Int)-1) (by omega) (by omega)]
  by_cases q:Zre (Zv.Design b) n
  ·have q2:0≤n∧n≤((Zv.ZlA b).length:Int)-1:=by unfold Zre at q;omega
   rw [if_pos (ZcF q),if_pos (ZcF q2)]
   exact ⟨_,rfl,rfl,fun _=>⟨h,q⟩⟩
  ·have q2:¬(0≤n∧n≤((Zv.ZlA b).length:Int)-1):=by unfold Zre at q;omega
   rw [Zag q,Zag q2]
   exact ⟨2,rfl,rfl,fun e=>by omega⟩
 ·rw [Zag h]
  exact ⟨1,rfl,rfl,fun e=>by omega⟩
theorem ZEx {b:Zv} (hB:ZqJ b) {n:Int} (hn:Zre (Zv.Design b) n):ZEa b n=some 0:=by
 unfold ZEa
 rw [Zua b hB.sm,Bq,if_pos (ZcF hB.ok),Zsu _ _ (Zrd hB.sm).2.1,Bq,if_pos (ZcF hn)]
theorem ZEs {b:Zv} (hB:ZqJ b) {v:Nat} (hn:Zre (Zv.Design b) (v:Int)) {w:QH} {ld:List Int} (h:ZFn b v w ld):ZD1 b (v:Int)=some (ndl w ld,0):=by
 unfold ZD1
 rw [ZEx hB hn,Bq,if_pos rfl,ZFl h]
 rfl
theorem ZFb {b:Zv} (hB:ZqJ b) {v:Nat} (hn:Zre (Zv.Design b) (v:Int)) {w:QH} {ld:List Int} (h:ZFn b v w ld):∃ x,ld[0]?=some x∧(0≤x∧x≤43000)∧ZD6 b (v:Int)=some (x,0):=by
 have hx:ld[0]?=some (ld[0]'(by have:=h.n1;have:=h.nl;omega)):=List.getElem?_eq_getElem _
 refine ⟨_,hx,h.lds _ (List.mem_of_getElem? hx),?_⟩
 unfold ZD6 ZEk
 rw [ZEx hB hn,Bq,if_pos rfl,h.prog]
 simp only [Bq,if_true]
 rw [show atI ld (0:Int)=ld[0]? from rfl,hx]
 rfl
theorem ZFz {b:Zv} {e:Zbk} (hB:ZqJ b) (k5:Zbk.Kind e=5) (he:sm Zn2 e) (hb:Blank e) (hr:Zr6 b e) (hW:ZrY (Zbk.ZoZ e) ((sinks (Zv.Design b) (Zbk.Net e)).length:Int)):Zqs b e=some (Zy5 b (Zbk.Net e) (Zbk.ZoZ e),0):=by
 have hf:=hB.ok.1.few
 have hse:=(ZvB he).2
 obtain ⟨w,hw1,hw2,hw3⟩:=ZtN hB (hr.2.2 k5)
 have hp:Zrh e b=some true:=by
  unfold Zrh
  rw [Zpj _ hf,Bq,if_neg (by omega),if_neg (by omega),if_neg (by omega),if_neg (by omega),hw2]
  simp only [Bq,Zrj,Zvw _ _ hse,hw3.2.2.2.1]
  rw [ZcF hW]
 have hc:ZqE b e=some 0:=by
  unfold ZqE ZsA
  rw [Zua b hB.sm,Bq,if_pos (ZcF hB.ok),Zwy hB e he,Bq,if_pos (ZcF ⟨hb,hr⟩),hp,Bq,if_pos rfl,if_neg (by omega)]
  rfl
 unfold Zqs
 rw [hc,Bq,if_pos rfl,ZAS hB k5 (hr.2.2 k5) hse]
 rfl
theorem ZFd {b:Zv} (hb:ZqJ b) {v:Nat} (hn:Zre (Zv.Design b) (v:Int)) {w:QH} {ld:List Int} (h:ZFn b v w ld) (hW:ZrY w ((sinks (Zv.Design b) (v:Int)).length:Int)) (hsw:sm ZjY w) {k:Nat} {x:Int} (hx:(QH.Cap w)[k]?=some x)
  {res:List Int} (hr1:res.length=(QH.Res w).length) (hr2:∀ y∈res,0≤y∧y≤1000) (hr0:res[0]?=some 0) (hr3:∀ i:Nat,((QH.Res w)[i]?).getD 0≤(res[i]?).getD 0) :
  ∃ r dl x0 x1,Zqs b ((5:Int),(0:Int),(0:Int),(v:Int),(0:Int),([]:List UInt8),(QH.Parent w,res,(QH.Cap w).set k (Min.min (x+7) 500),w.snd.snd.snd),())=some (r,0)∧ZD1 r (v:Int)=some (dl,0)∧
   ZD6 b (v:Int)=some (x0,0)∧ZD6 r (v:Int)=some (x1,0)∧(0≤x0∧x0≤43000)∧(0≤x1∧x1≤43000)∧x1-x0=Min.min (x+7) 500-x∧dl.length=(ndl w ld).length∧∀ (i:Nat) (y z:Int),(ndl w ld)[i]?=some y→dl[i]?=some z→¬z<y:=by
 obtain ⟨⟨p1,p8⟩,lr,lc,ls,ht,ar,ac,ak⟩:=hW
 have hkl:=(List.getElem?_eq_some_iff.1 hx).1
 have hxb:=ac x (List.mem_of_getElem? hx)
 obtain ⟨s1,s2,s3,s4⟩:=Zv3 hsw
 have hsk:=Zo9 s4
 generalize hδ:Min.min (x+7) 500-x=δ
 have hm:Min.min (x+7) 500=x+δ:=by omega
 have d0:0≤δ:=by omega
 have d7:δ≤7:=by omega
 have d5:x+δ≤500:=by omega
 rw [hm]
 generalize hw':((QH.Parent w,res,(QH.Cap w).set k (x+δ),w.snd.snd.snd):QH)=w'
 have e1:QH.Parent w'=QH.Parent w:=by rw [←hw']
 have e2:QH.Res w'=res:=by rw [←hw']
 have e3:QH.Cap w'=(QH.Cap w).set k (x+δ):=by rw [←hw']
 have e4:QH.ZnH w'=QH.ZnH w:=by rw [←hw']
 have hW':ZrY w' ((sinks (Zv.Design b) (v:Int)).length:Int):=by
  unfold ZrY
  rw [e1,e2,e3,e4]
  refine ⟨⟨p1,p8⟩,by omega,by rw [List.length_set];exact lc,ls,fun i y hy=>?_,hr2,fun y hy=>?_,ak⟩
  ·have:=ht i y hy
   exact ⟨fun q=>⟨(this.1 q).1,by rw [e2];exact hr0⟩,this.2⟩
  ·rcases List.mem_or_eq_of_mem_set hy with hy | hy
   ·exact ac y hy
   ·rw [hy];exact ⟨by omega,d5⟩
 have hsw':sm ZjY w':=by
  refine ZuG ?_ ?_ ?_ ?_
  ·show (QH.Parent w').length≤_;rw [e1];omega
  ·show (QH.Res w').length≤_;rw [e2];omega
  ·show (QH.Cap w').length≤_;rw [e3,List.length_set];omega
  ·show (QH.ZnH w').length≤_;rw [e4];omega
 generalize he:(((5:Int),(0:Int),(0:Int),(v:Int),(0:Int),([]:List UInt8),w',()):Zbk)=e
 have k5:Zbk.Kind e=5:=by rw [←he]
 have en:Zbk.Net e=(v:Int):=by rw [←he]
 have ew:Zbk.ZoZ e=w':=by rw [←he]
 have hse:sm Zn2 e:=by rw [←he];exact Zxy Zv4 hsw'
 have hA:=ZFz hb k5 hse (.inr (.inr (.inr (.inr ⟨k5,by rw [←he],by rw [←he],by rw [←he],by rw [←he]⟩)))) ⟨fun q=>by omega,fun q=>by omega,fun _=>by rw [en];exact hn⟩ (by rw [en,ew];exact hW')
 rw [en,ew] at hA
 have hR:=Zyu hb hn hW' hsw'
 have hlt:v<(Zv.ZlA b).length:=(List.getElem?_eq_some_iff.1 h.wire).1
 have hwr:(Zv.ZlA (Zy5 b (v:Int) w'))[v]?=some w':=by
  show ((Zv.ZlA b).set (Int.toNat (v:Int)) w')[v]?=some w'
  rw [Int.toNat_natCast]
  exact List.getElem?_set_self hlt
 obtain ⟨ld',h'⟩:=ZFA hR hwr
 have hn':Zre (Zv.Design (Zy5 b (v:Int) w')) (v:Int):=hn
 obtain ⟨x0,hx0,bx0,l0⟩:=ZFb hb hn h
 obtain ⟨x1,hx1,bx1,l1⟩:=ZFb hR hn' h'
 have g:=ZFp (r:=Zy5 b (v:Int) w') hb rfl rfl h h' e1 e4 lc hx e3 ac d0 d7
 obtain ⟨g1,g2,g3⟩:=g.plain d0 d7 h.lds
 refine ⟨_,_,x0,x1,hA,ZEs hR hn' h',l0,l1,bx0,bx1,?_,by rw [h'.len,h.len,e1],fun i y z hy hz=>?_⟩
 ·have:=g3 _ _ hx0 hx1
  omega
 ·have nn:∀ {l:List Int} {c:Int},(∀ y∈l,0≤y∧y≤c)→∀ i:Nat,0≤(l[i]?).getD 0:=fun {l c} hl i=>by
   cases q:l[i]? with
   | none=>exact Int.le_refl _
   | some y=>exact (hl y (List.mem_of_getElem? q)).1
  have m:=ZFo (w:=w) (w':=w') (ld:=ld) (ld':=ld') e1 (fun i=>by rw [e2];exact hr3 i) g2 (fun i=>by rw [e2];exact nn hr2 i) (nn h.lds) ((QH.Parent w).length-1) i
  unfold ndl at hy hz
  rw [e1] at hz
  rw [hy,hz] at m
  simp only [Option.getD_some] at m
  omega
theorem ZFe {code:List Int} (hb:bnd (.sl (.int .u8)) code) (hl:code.length≤4096):Gets (ZD8 code) (fun r=>Zyx r.1):=by
 unfold ZD8 ZEd
 refine Gets.bind (P:=fun r:Zv×Int=>Zyx r.1) ?_ fun r h=>.ret h
 refine (Zjd (bytesD hb) hl).bind fun s hs=>?_
 refine (Zzj hs).bind fun r ⟨h,h1⟩=>?_
 refine Gets.bind (P:=fun _=>True) ?_ fun q _=>.ret h
 unfold ZEg
 refine (Zf h1 _).bind fun r1 ⟨_,h2⟩=>?_
 refine Gets.ite (fun _=>?_) (fun _=>?_)
 ·refine (Zf h2 2).bind fun r2 ⟨⟨a0,a1⟩,h3⟩=>?_
  exact .at a0 (by simp only [List.length_cons,List.length_nil];omega) fun _ _ _=>.ret trivial
 ·exact (Zf h2 _).bind fun r2 _=>.ret trivial
theorem ZEn (code:List Int) (hb:bnd (.sl (.int .u8)) code):ZD9 code=some true:=by
 unfold ZD9 ZbE
 rw [Bq]
 by_cases hbig:decide ((4096:Int)<(code.length:Int))=true
 ·rw [if_pos hbig]
 rw [if_neg hbig]
 have hlen:code.length≤4096:=by
  simp only [decide_eq_true_eq] at hbig
  omega
 obtain ⟨⟨b,n⟩,hd,hbE⟩:=ZFe hb hlen
 have hbE:Zyx b:=hbE
 rw [hd,Bq]
 dsimp only
 obtain ⟨c,c1,c2,c3⟩:=ZFr b hbE.1 n
 by_cases hc:c=0
 ·subst hc
  obtain ⟨hB,hn⟩:=c3 rfl
  have hB:ZqJ b:=⟨hB,hbE.1⟩
  obtain ⟨w,hw1,hw2,hW⟩:=ZtN hB hn
  have hnn:n=((n.toNat:Nat):Int):=by have:=hn.1;omega
  generalize n.toNat=v at hnn hw1
  subst hnn
  have hsw:=ZqC (Zrd hB.sm).2.2 hw1
  obtain ⟨ld,hN⟩:=ZFA hB hw1
  have eD:=ZEs hB hn hN
  have eS:ZD7 b (v:Int)=some (ndl w ld,0):=by
   unfold ZD7
   rw [c2,Bq,if_pos rfl,ZFm hN]
   rfl
  obtain ⟨dd,hdd,hD⟩:=ZDI (bytesD hb) hlen 612
  have hW0:=hW
  obtain ⟨⟨p1,p8⟩,lr,lc,ls,ht,ar,ac,ak⟩:=hW0
  obtain ⟨⟨k,dk⟩,hk,k0,k1⟩:=ZDE hD (n:=((QH.Cap w).length:Int)) (by omega)
  have k0:0≤k:=k0
  have k1:k<((QH.Cap w).length:Int):=k1
  rw [eD,Bq,eS,Bq,if_pos rfl,if_pos rfl,hdd,Bq,hw2,Bq,hk,Bq]
  rw [ZB (by simp only [List.length_nil];omega),ZB (by simp only [List.length_nil];omega)]
  simp only [List.nil_append]
  have ek:k=((k.toNat:Nat):Int):=by omega
  generalize k.toNat=m at ek
  subst ek
  have hx:(QH.Cap w)[m]?=some ((QH.Cap w)[m]'(by omega)):=List.getElem?_eq_getElem _
  generalize (QH.Cap w)[m]'(by omega)=x at hx
  have hxb:=ac x (List.mem_of_getElem? hx)
  have hset:atI ((QH.Cap w).set m (Min.min (x+7) 500)) (m:Int)=some (Min.min (x+7) 500):=by
   rw [VU]
   exact List.getElem?_set_self (by omega)
  have hR0:(QH.Res w)[0]?=some 0:=by
   have hp0:(QH.Parent w)[0]?=some ((QH.Parent w)[0]'(by omega)):=List.getElem?_eq_getElem _
   exact ((ht 0 _ hp0).1 rfl).2
  rw [VU,hx,Bq,XD (n:=x+7) (by omega) (by omega)]
  by_cases hm:(0:Int)<(m:Int)
  ·rw [if_pos hm]
   have hy:(QH.Res w)[m]?=some ((QH.Res w)[m]'(by omega)):=List.getElem?_eq_getElem _
   generalize (QH.Res w)[m]'(by omega)=y at hy
   have hyb:=ar y (List.mem_of_getElem? hy)
   rw [VU,hy,Bq,XD (n:=y+11) (by omega) (by omega)]
   obtain ⟨r,dl,x0,x1,a1,a2,a3,a4,b0,b1,a5,a6,a7⟩:=ZFd hB hn hN hW hsw hx (res:=(QH.Res w).set m (Min.min (y+11) 1000)) (by rw [List.length_set])
    (fun z hz=>by
     rcases List.mem_or_eq_of_mem_set hz with hz | hz
     ·exact ar z hz
     ·omega)
    (by rw [List.getElem?_set_ne (by omega)];exact hR0)
    (fun i=>by
     by_cases q:m=i
     ·subst q
      rw [List.getElem?_set_self (by omega),hy]
      simp only [Option.getD_some]
      omega
     ·rw [List.getElem?_set_ne q]
      exact Int.le_refl _)
   rw [a1,Bq,a2,Bq,a3,Bq,a4,Bq,if_pos rfl,if_pos rfl,if_pos (by rw [a6]),if_pos (by rw [hN.len,lc]),hset,Bq,Bq,if_pos (by rw [a5])]
   refine ZgW (l:=ndl w ld) (fun i=>((i:Int),())) (fun i z hz hi=>?_) ?_
   ·have hu:dl[i]?=some (dl[i]'(by omega)):=List.getElem?_eq_getElem _
    simp only [ZD2,show (i:Int)<((ndl w ld).length:Int) by omega,if_true,VU,hz,hu,Bq,Zkd (show i≤1048576 by have:=hN.len;omega)]
    rw [if_neg (a7 _ _ _ hz hu)]
   ·simp only [ZD2,Int.lt_irrefl,if_false]
  ·rw [if_neg hm]
   obtain ⟨r,dl,x0,x1,a1,a2,a3,a4,b0,b1,a5,a6,a7⟩:=ZFd hB hn hN hW hsw hx (res:=QH.Res w) rfl ar hR0 (fun i=>Int.le_refl _)
   rw [a1,Bq,a2,Bq,a3,Bq,a4,Bq,if_pos rfl,if_pos rfl,if_pos (by rw [a6]),if_pos (by rw [hN.len,lc]),hset,Bq,Bq,if_pos (by rw [a5])]
   refine ZgW (l:=ndl w ld) (fun i=>((i:Int),())) (fun i z hz hi=>?_) ?_
   ·have hu:dl[i]?=some (dl[i]'(by omega)):=List.getElem?_eq_getElem _
    simp only [ZD3,show (i:Int)<((ndl w ld).length:Int) by omega,if_true,VU,hz,hu,Bq,Zkd (show i≤1048576 by have:=hN.len;omega)]
    rw [if_neg (a7 _ _ _ hz hu)]
   ·simp only [ZD3,Int.lt_irrefl,if_false]
 ·have eD:ZD1 b n=some ([],c):=by
   unfold ZD1
   rw [c1,Bq,if_neg hc]
  have eS:ZD7 b n=some ([],c):=by
   unfold ZD7
   rw [c2,Bq,if_neg hc]
  rw [eD,Bq,eS,Bq,if_pos rfl,if_neg hc]
  rfl
end Go.Proofs.YtnnbgbgapogckaaGreatDoor
