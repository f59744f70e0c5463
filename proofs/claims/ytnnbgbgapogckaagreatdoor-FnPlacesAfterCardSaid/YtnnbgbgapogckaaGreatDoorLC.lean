/-
  Plain laws: nodes behind wiring, designs connected back; an edit's state, told the other way round.
-/
import Derived.Test.YtnnbgbgapogckaaGreatDoorLB
import Derived.Test.YtnnbgbgapogckaaGreatDoorLA
import Derived.Test.YtnnbgbgapogckaaGreatDoorM
import Derived.Test.YtnnbgbgapogckaaGreatDoorSxBr
namespace Go.Proofs.YtnnbgbgapogckaaGreatDoor
set_option linter.unusedVariables false
set_option linter.unusedSimpArgs false
open Go Go.Sx
def ZAa (a b:QG):Prop:=QG.Kind a=QG.Kind b∧(QG.ZoY a).length=(QG.ZoY b).length∧Zna (QG.ZoY a) (fun k x=>∀ y,(QG.ZoY b)[k]?=some y→(ZhU.Clock x == ZhU.Clock y)=true)
theorem Zyh {a b:QG} (ha:sm Zin a):Zp3 a b=some true↔ZAa a b:=by
 have s1:(QG.ZoY a).length≤1048576:=by have:=(Zy2 ha).pins.1;omega
 unfold Zp3 ZAa
 by_cases k:QG.Kind a=QG.Kind b
 ·rw [if_pos k]
  by_cases hl:((QG.ZoY a).length:Int)=((QG.ZoY b).length:Int)
  ·rw [if_pos hl,Zrc (l:=QG.ZoY a) (show Len _ by unfold Len;omega) (fun k x=>∀ y,(QG.ZoY b)[k]?=some y→(ZhU.Clock x == ZhU.Clock y)=true) (bad:=false) (good:=true)
    (step:=fun v=>Zp5 a b v.1)
    (fun k x hx hk _=>by
     have hy:(QG.ZoY b)[k]?=some (QG.ZoY b)[k]:=List.getElem?_eq_getElem (by omega)
     simp only [Zp5,show (k:Int)<((QG.ZoY a).length:Int) from by omega,if_true,VU,hx,hy,Bq,Option.some.injEq,forall_eq']
     constructor
     ·intro hh;rw [if_pos hh]
     ·intro hh;rw [if_neg hh])
    (fun _=>by simp only [Zp5,Int.lt_irrefl,if_false])]
   have hl':(QG.ZoY a).length=(QG.ZoY b).length:=by omega
   constructor
   ·intro h
    injection h with h
    refine ⟨k,hl',?_⟩
    by_cases q:Zna (QG.ZoY a) (fun k x=>∀ y,(QG.ZoY b)[k]?=some y→(ZhU.Clock x == ZhU.Clock y)=true)
    ·exact q
    ·rw [Zl6 q] at h;cases h
   ·rintro ⟨_,_,h⟩
    rw [ZjL h]
  ·rw [if_neg hl]
   exact ⟨fun h=>(by cases h),fun h=>absurd (by omega) hl⟩
 ·rw [if_neg k]
  exact ⟨fun h=>(by cases h),fun h=>absurd h.1 k⟩
/-
  Plain laws: an edit undone.
-/
/-
  Plain laws: a buffer taken away, put in again; every edit is undone by its inverse.
-/
theorem app1 {b:Zv} {e:Zbk} (hB:ZqJ b) (k1:Zbk.Kind e=1) {p:Pl} {x:Zz} (hp:ZrD b e p) (h0:0≤p.1) (hx:(Zp.Instances (Zv.Design b))[p.1.toNat]?=some x):Zpy e b=some (swapped b p.1 (Zbk.Cell e)):=by
 unfold Zpy
 rw [Zp4 _ hB.sm,Bq,if_pos k1,Zpj _ hB.ok.1.few,Bq,hp.at,Bq]
 simp only [show Zbl.instance p=p.1 from rfl,Zkf h0 hx,Bq]
 unfold swapped
 rw [hx]
theorem app2 {b:Zv} {e:Zbk} (h:ZtQ b e) (k2:Zbk.Kind e=2) (hs:sm .str (Zbk.Name e)) {p:Pl} (hp:ZrD b e p) (hd:p.2.2.2.1=false):Zpy e b=some (buffered b e (Zbk.Place e).toNat p):=by
 unfold Zpy
 rw [Zp4 _ h.blk.sm,Bq,if_neg (by omega),if_pos k2,Zvy h k2 hs hp hd]
 rfl
theorem app3 {b:Zv} {e:Zbk} (hB:ZqJ b) (hL:Zuz b) (k3:Zbk.Kind e=3):∃ (k:Nat) (p:Pl) (m:Int),sinks (Zv.Design b) (((Zp.Zbh (Zv.Design b)).length:Int)-1)=[(k:Int)]∧(places (Zv.Design b))[k]?=some p∧p.1≠((Zp.Instances (Zv.Design b)).length:Int)-1∧
  (∀ y,(Zp.Instances (Zv.Design b))[(Zp.Instances (Zv.Design b)).length-1]?=some y→atI (Zz.Zbh y) 0=some m)∧Zpy e b=some (ZpS b k p m):=by
 obtain ⟨k,p,m,v,hs,hp,hpi,hm,hv,hun⟩:=ZtJ hB hL
 obtain ⟨hn,x,hx,hl2⟩:=hL.two
 have hn2:0<(Zp.Instances (conn (Zv.Design b) p.1 p.2.1 m)).length:=by rw [ZpC];exact hn
 have hx4:(Zp.Instances (conn (Zv.Design b) p.1 p.2.1 m))[(Zp.Instances (conn (Zv.Design b) p.1 p.2.1 m)).length-1]?=some ((Zp.Instances (conn (Zv.Design b) p.1 p.2.1 m))[(Zp.Instances (conn (Zv.Design b) p.1 p.2.1 m)).length-1]'(by omega)):=List.getElem?_eq_getElem _
 generalize (Zp.Instances (conn (Zv.Design b) p.1 p.2.1 m))[(Zp.Instances (conn (Zv.Design b) p.1 p.2.1 m)).length-1]'(by omega)=x' at hx4
 obtain ⟨y,hy,_,_,hyl,_⟩:=Zs5 hx4
 rw [ZpC,hx] at hy
 injection hy with hy
 have h5:=Zuf hn2 hx4 (by rw [hyl,←hy,hl2])
 have h6:=Zt3 hp m
 have hins:Zpg (unD b p m)=Zpg (Zv.Design b)-2:=by unfold unD;omega
 refine ⟨k,p,m,hs,hp,hpi,hm,?_⟩
 unfold Zpy
 rw [Zp4 _ hB.sm,Bq,if_neg (by omega),if_neg (by omega),if_pos k3,hun,hins,hv]
 rfl
theorem app4 {b:Zv} {e:Zbk} (hB:ZqJ b) (k4:Zbk.Kind e=4) {p:Pl} (hp:ZrD b e p) (hd:p.2.2.2.1=false) (hn:Zre (Zv.Design b) (Zbk.Net e)):Zpy e b=some (moved b (Zbk.Place e).toNat p (Zbk.Net e) (Zbk.Node e)):=by
 unfold Zpy
 rw [Zp4 _ hB.sm,Bq,if_neg (by omega),if_neg (by omega),if_neg (by omega),if_pos k4,Zr9 hB,Bq,Zpj _ hB.ok.1.few,Bq,hp.at,Bq,
  show (Zbl.instance p,Zbl.pin p,())=(p.1,p.2.1,()) from rfl,Zty hp.2,Bq]
 exact congrArg (fun o=>Option.bind o fun connect0=>some connect0) (ZwK hB hp.2 hd hn (v:=Zbk.Node e))
theorem ZAS {b:Zv} {e:Zbk} (hB:ZqJ b) (k5:Zbk.Kind e=5) (hn:Zre (Zv.Design b) (Zbk.Net e)) (hs:sm ZjY (Zbk.ZoZ e)):Zpy e b=some (Zy5 b (Zbk.Net e) (Zbk.ZoZ e)):=by
 obtain ⟨w,hw1,hw2,_⟩:=ZtN hB hn
 unfold Zpy
 rw [Zp4 _ hB.sm,Bq,if_neg (by omega),if_neg (by omega),if_neg (by omega),if_neg (by omega),if_pos k5,Zr2 _ hs,Bq,hw2,Bq]
 rfl
/-
  Plain laws: what a draw yields: the source, its numbers.
-/
def Gets {α:Type} (o:Option α) (Q:α→Prop):Prop:=∃ a,o=some a∧Q a
theorem Gets.ret {α:Type} {a:α} {Q:α→Prop} (h:Q a):Gets (some a) Q:=⟨a,rfl,h⟩
theorem Gets.bind {α β:Type} {o:Option α} {P:α→Prop} {f:α→Option β} {Q:β→Prop} (h:Gets o P) (k:∀ a,P a→Gets (f a) Q):Gets (o.bind f) Q:=by
 obtain ⟨a,e,hp⟩:=h
 rw [e]
 exact k a hp
theorem Gets.guard {α:Type} {p:Prop} {o:Option α} {Q:α→Prop} (h:p) (k:Gets o Q):Gets (Zj p o) Q:=by rw [ZB h];exact k
theorem Gets.ite {α:Type} {p:Prop} [Decidable p] {a b:Option α} {Q:α→Prop} (h1:p→Gets a Q) (h2:¬p→Gets b Q):Gets (if p then a else b) Q:=by
 split
 ·exact h1 (by assumption)
 ·exact h2 (by assumption)
theorem Gets.at {α β:Type} {l:List α} {i:Int} {f:α→Option β} {Q:β→Prop} (h0:0≤i) (h1:i<(l.length:Int)) (k:∀ x,x∈l→l[i.toNat]?=some x→Gets (f x) Q):Gets ((atI l i).bind f) Q:=by
 obtain ⟨x,e,hx⟩:=Zbn h0 h1
 rw [e]
 exact k x (List.mem_of_getElem? hx) hx
theorem Gets.mono {α:Type} {o:Option α} {P Q:α→Prop} (h:Gets o P) (k:∀ a,P a→Q a):Gets o Q:=by
 obtain ⟨a,e,hp⟩:=h
 exact ⟨a,e,k a hp⟩
theorem Gets.of {α:Type} {o:Option α} {a:α} {Q:α→Prop} (e:o=some a) (h:Q a):Gets o Q:=⟨a,e,h⟩
def Rnd {τ ρ:Type} (I:τ→Prop) (μ:τ→Nat) (m:Nat) (Q:ρ→Prop):τ ⊕ ρ→Prop
 | .inl v=>I v∧μ v<m
 | .inr r=>Q r
theorem Gets.loop {τ ρ:Type} {step:τ→Option (τ ⊕ ρ)} (I:τ→Prop) (μ:τ→Nat) {Q:ρ→Prop} {v:τ} (h0:I v) (hs:∀ v,I v→Gets (step v) (Rnd I μ (μ v) Q)):Gets (ZA step v) Q:=by
 refine ZeX I μ Q h0 (fun v hI=>?_)
 obtain ⟨r,e,h⟩:=hs v hI
 cases r with
 | inl v'=>exact .inl ⟨v',e,h⟩
 | inr r=>exact .inr ⟨r,e,h⟩
structure Src (s:Za):Prop where
 code:∀ x∈Za.code s,0≤x∧x≤255
 len:(Za.code s).length≤4096
 at0:0≤Za.at s
 at1:Za.at s≤4096
 sd0:0≤Za.seed s
 sd1:Za.seed s<2147483647
def Bel (n k:Int):Prop:=0≤k∧(k<n∨k=0)
theorem Zf {s:Za} (hs:Src s) (n:Int):Gets (Zc s n) (fun r=>Bel n r.1∧Src r.2):=by
 obtain ⟨hc,hl,a0,a1,s0,s1⟩:=hs
 unfold Zc
 split
 ·exact .ret ⟨⟨Int.le_refl _,.inr rfl⟩,⟨hc,hl,a0,a1,s0,s1⟩⟩
 rename_i hn
 split
 ·rename_i hat
  refine .at a0 hat fun x hx _=>?_
  obtain ⟨b0,b1⟩:=hc x hx
  have e1:Wq (Za.at s+1)=Za.at s+1:=XD (by omega) (by omega)
  have e2:Wq x=x:=XD (by omega) (by omega)
  have e3:Wq (Za.seed s*48271)=Za.seed s*48271:=XD (by omega) (by omega)
  have e4:Wq (Za.seed s*48271+x)=Za.seed s*48271+x:=XD (by omega) (by omega)
  have e5:Wq (Za.seed s*48271+x+1)=Za.seed s*48271+x+1:=XD (by omega) (by omega)
  simp only [e2,e3,e4,e5,e1]
  split
  ·refine .guard (by omega) (.ret ⟨⟨Int.tmod_nonneg _ b0,.inl (Int.tmod_lt_of_pos _ (by omega))⟩,⟨hc,hl,?_,?_,s0,s1⟩⟩)
   ·show 0≤Za.at s+1;omega
   ·show Za.at s+1≤4096;omega
  ·have m0:=Int.tmod_nonneg (a:=Za.seed s*48271+x+1) 2147483647 (by omega)
   have m1:=Int.tmod_lt_of_pos (Za.seed s*48271+x+1) (show (0:Int)<2147483647 by omega)
   refine .guard (by omega) (.ret ⟨⟨Int.tmod_nonneg _ m0,.inl (Int.tmod_lt_of_pos _ (by omega))⟩,⟨hc,hl,?_,?_,m0,m1⟩⟩)
   ·show 0≤Za.at s+1;omega
   ·show Za.at s+1≤4096;omega
 ·have e3:Wq (Za.seed s*48271)=Za.seed s*48271:=XD (by omega) (by omega)
  have e4:Wq (Za.seed s*48271+11)=Za.seed s*48271+11:=XD (by omega) (by omega)
  simp only [e3,e4]
  have m0:=Int.tmod_nonneg (a:=Za.seed s*48271+11) 2147483647 (by omega)
  have m1:=Int.tmod_lt_of_pos (Za.seed s*48271+11) (show (0:Int)<2147483647 by omega)
  generalize (Za.seed s*48271+11).tmod 2147483647=q at m0 m1
  have d0:q.tdiv 7=q / 7:=Int.tdiv_eq_ediv_of_nonneg m0
  rw [d0,XD (n:=q / 7) (by omega) (by omega)]
  exact .guard (by omega) (.ret ⟨⟨Int.tmod_nonneg _ (by omega),.inl (Int.tmod_lt_of_pos _ (by omega))⟩,⟨hc,hl,a0,a1,m0,m1⟩⟩)
theorem Zjd {code:List Int} (hc:∀ x∈code,0≤x∧x≤255) (hl:code.length≤4096):Gets (Ve code) Src:=by
 unfold Ve
 refine Gets.loop (fun v=>0≤v.1∧v.1≤64∧0≤v.2.1∧v.2.1<2147483647) (fun v=>(64-v.1).toNat) ⟨Int.le_refl _,by show (0:Int)≤64;omega,by show (0:Int)≤12345;omega,by show (12345:Int)<2147483647;omega⟩ ?_
 rintro ⟨i,c,⟨⟩⟩ ⟨i0,i1,c0,c1⟩
 simp only at i0 i1 c0 c1
 have fin:Gets (some (.inr (code,(0:Int),c,()):(Int×Int×Unit) ⊕ Za)) (Rnd (fun v:Int×Int×Unit=>0≤v.1∧v.1≤64∧0≤v.2.1∧v.2.1<2147483647) (fun v=>(64-v.1).toNat) ((fun v:Int×Int×Unit=>(64-v.1).toNat) (i,c,())) Src) :=
  .ret (show Src (code,(0:Int),c,()) from ⟨hc,hl,Int.le_refl _,by show (0:Int)≤4096;omega,c0,c1⟩)
 show Gets (Xp code i c) _
 unfold Xp
 split
 ·rename_i hi
  split
  ·rename_i h64
   refine .at i0 hi fun x hx _=>?_
   obtain ⟨b0,b1⟩:=hc x hx
   have e1:Wq (i+1)=i+1:=XD (by omega) (by omega)
   have e2:Wq x=x:=XD (by omega) (by omega)
   have e3:Wq (c*31)=c*31:=XD (by omega) (by omega)
   have e4:Wq (c*31+x)=c*31+x:=XD (by omega) (by omega)
   simp only [e1,e2,e3,e4]
   refine .ret ⟨⟨?_,?_,Int.tmod_nonneg _ (by omega),Int.tmod_lt_of_pos _ (by omega)⟩,?_⟩
   ·show 0≤i+1;omega
   ·show i+1≤64;omega
   ·show (64-(i+1)).toNat<(64-i).toNat;omega
  ·exact fin
 ·exact fin
theorem ZcZ {n:Int} (h0:0≤n) (h1:n<100):Gets (XG n) (fun r=>r.length≤2):=by
 have one:∀ (k:Nat) (m:Int),0≤m→m<10→Yp (k+1) m=some (bytesOf [IntKind.wrap IntKind.u8 (Wq (48+m))]):=fun k m a b=>by
  show ZN (Yp k) m=_
  unfold ZN
  rw [if_neg (by omega),if_pos b]
 have hb:∀ x:Int,(bytesOf [x]).length=1:=fun x=>rfl
 unfold XG
 by_cases h:n<10
 ·refine .of (Zfz ⟨1,one 0 n h0 h⟩ (fun k r hr=>?_)) (by rw [hb];omega)
  cases k with
  | zero=>cases hr
  | succ k=>rw [one k n h0 h] at hr;injection hr with hr;exact hr.symm
 ·have hd:n.tdiv 10=n / 10:=Int.tdiv_eq_ediv_of_nonneg h0
  have two:∀ k:Nat,Yp (k+2) n=some (bytesOf [IntKind.wrap IntKind.u8 (Wq (48+n / 10))]++bytesOf [IntKind.wrap IntKind.u8 (Wq (48+n.tmod 10))]):=fun k=>by
   show ZN (Yp (k+1)) n=_
   unfold ZN
   rw [if_neg (by omega),if_neg h,hd,XD (n:=n / 10) (by omega) (by omega),one k (n / 10) (by omega) (by omega),Bq,ZB (by rw [hb,hb];omega)]
  refine .of (Zfz ⟨2,two 0⟩ (fun k r hr=>?_)) (by rw [List.length_append,hb,hb];omega)
  match k,hr with
  | 0,hr=>cases hr
  | 1,hr =>
   exfalso
   revert hr
   show ¬ZN (Yp 0) n=some r
   unfold ZN
   rw [if_neg (by omega),if_neg h]
   intro hr
   cases hr
  | k+2,hr=>rw [two k] at hr;injection hr with hr;exact hr.symm
theorem Yi {α:Type} {P:α→Prop} {l:List α} {x:α} (h:∀ y∈l,P y) (hx:P x):∀ y∈l++[x],P y:=by
 intro y hy
 rcases List.mem_append.1 hy with hy | hy
 ·exact h y hy
 ·rw [List.mem_singleton] at hy
  rw [hy];exact hx
theorem Ze7 {α:Type} {P:α→Prop} {l:List α} {x:α} {i:Nat} (h:∀ y∈l,P y) (hx:P x):∀ y∈l.set i x,P y:=by
 intro y hy
 rcases List.mem_or_eq_of_mem_set hy with hy | hy
 ·exact h y hy
 ·rw [hy];exact hx
theorem smI {l:List Int} (h:l.length≤1048576):sm (.sl (.int .i64)) l:=⟨by omega,fun _ _=>trivial⟩
theorem smS {s:List UInt8} (h:s.length≤1048576):sm .str s:=by show (s.length:Int)≤1048576;omega
theorem smL {t:Ty} {l:List t.den} (h:l.length≤1048576) (h2:∀ x∈l,sm t x):sm (.sl t) l:=⟨by omega,h2⟩
/-
  Plain laws: what the draws of tables, arcs, cells and libraries yield.
-/
theorem ZfT {s:Za} (hs:Src s) (st:Int):Gets (YU s st) (fun r=>(1≤r.1.length∧r.1.length≤3)∧Src r.2):=by
 unfold YU
 refine (Zf hs st).bind fun r0 ⟨_,h0⟩=>?_
 refine (Zf h0 3).bind fun r1 ⟨⟨a,b⟩,h1⟩=>?_
 have e:Wq (1+r1.1)=1+r1.1:=XD (by omega) (by omega)
 rw [e]
 refine Gets.loop (fun v=>0≤v.2.2.1∧(v.1.length:Int)+v.2.2.1=1+r1.1∧Src (v.2.2.2.1,v.2.2.2.2.1,v.2.2.2.2.2.1,())) (fun v=>v.2.2.1.toNat) ⟨by dsimp only;omega,by dsimp only [List.length_nil];omega,h1⟩ ?_
 rintro ⟨out,t,n,c0,c1,c2,⟨⟩⟩ ⟨i1,i2,i3⟩
 dsimp only at i1 i2 i3
 show Gets (Yv st out t n c0 c1 c2) _
 unfold Yv
 have hw:Wq (n-1)=n-1:=XD (by omega) (by omega)
 rw [hw]
 split
 ·refine .guard (by simp only [List.length_cons,List.length_nil];omega) ?_
  refine (Zf i3 st).bind fun r ⟨_,h2⟩=>?_
  refine .ret ⟨⟨by dsimp only;omega,by dsimp only;simp only [List.length_append,List.length_cons,List.length_nil];omega,h2⟩,by dsimp only;omega⟩
 ·exact .ret ⟨⟨by dsimp only;omega,by dsimp only;omega⟩,i3⟩
theorem Zl1 {a b:Nat} (ha:1≤a∧a≤3) (hb:1≤b∧b≤3):(b:Int)≤(a:Int)*(b:Int)∧(a:Int)*(b:Int)≤9:=by
 have:a=1∨a=2∨a=3:=by omega
 rcases this with rfl | rfl | rfl<;>omega
theorem ZeW {s:Za} (hs:Src s) (base:Int):Gets (Qy s base) (fun r=>sm ZdQ r.1∧Src r.2):=by
 unfold Qy
 refine (ZfT hs 60).bind fun r0 ⟨ha,h0⟩=>?_
 refine (ZfT h0 40).bind fun r1 ⟨hb,h1⟩=>?_
 obtain ⟨p1,p2⟩:=Zl1 ha hb
 refine Gets.loop (fun v=>0≤v.2.1∧v.2.1≤9∧(v.1.length:Int)=v.2.1∧Src (v.2.2.1,v.2.2.2.1,v.2.2.2.2.1,())) (fun v=>(9-v.2.1).toNat) ⟨by dsimp only;omega,by dsimp only;omega,by dsimp only [List.length_nil];omega,h1⟩ ?_
 rintro ⟨out,i,c0,c1,c2,⟨⟩⟩ ⟨i0,i1,i2,i3⟩
 dsimp only at i0 i1 i2 i3
 show Gets (Xq base r0 r1 out i c0 c1 c2) _
 unfold Xq
 have e0:Wq ((r0.1.length:Int)*(r1.1.length:Int))=(r0.1.length:Int)*(r1.1.length:Int):=XD (by omega) (by omega)
 have e1:Wq (i+1)=i+1:=XD (by omega) (by omega)
 have e2:Wq (i-1)=i-1:=XD (by omega) (by omega)
 have e3:Wq (i-(r1.1.length:Int))=i-(r1.1.length:Int):=XD (by omega) (by omega)
 rw [e0,e1,e2,e3]
 split
 ·rename_i hi
  have nx:∀ (x:Int) (t:Za),Src t→Gets (Zj ((List.length out+List.length [x])*(8:Nat)≤(140737488355328:Nat)) (some (.inl (out++[x],i+1,t.fst,t.snd.fst,t.snd.snd.fst,()):(List Int×Int×List Int×Int×Int×Unit) ⊕ (Jy×Za))))
    (Rnd (fun v:List Int×Int×List Int×Int×Int×Unit=>0≤v.2.1∧v.2.1≤9∧(v.1.length:Int)=v.2.1∧Src (v.2.2.1,v.2.2.2.1,v.2.2.2.2.1,())) (fun v=>(9-v.2.1).toNat) (9-i).toNat (fun r=>sm ZdQ r.1∧Src r.2)):=fun x t ht =>
   .guard (by simp only [List.length_cons,List.length_nil];omega) (.ret ⟨⟨by dsimp only;omega,by dsimp only;omega,by dsimp only;simp only [List.length_append,List.length_cons,List.length_nil];omega,ht⟩,by dsimp only;omega⟩)
  refine (Zf i3 10).bind fun r ⟨_,g0⟩=>?_
  refine .guard (by omega) ?_
  split
  ·rename_i hm
   have hne:i≠0:=by
    intro q
    rw [q,Int.zero_tmod] at hm
    omega
   refine .at (by omega) (by omega) fun x0 _ _=>?_
   refine (Zf g0 20).bind fun r2 ⟨_,g1⟩=>?_
   split
   ·refine .at (by omega) (by omega) fun x1 _ _=>?_
    refine (Zf g1 20).bind fun r3 ⟨_,g2⟩=>?_
    exact nx _ _ g2
   ·exact nx _ _ g1
  ·split
   ·refine .at (by omega) (by omega) fun x1 _ _=>?_
    refine (Zf g0 20).bind fun r3 ⟨_,g2⟩=>?_
    exact nx _ _ g2
   ·exact nx _ _ g0
 ·exact .ret ⟨⟨smI (by dsimp only;omega),smI (by dsimp only;omega),smI (by dsimp only;omega),trivial⟩,i3⟩
theorem Zbg {s:Za} (hs:Src s) (base:Int):Gets (Z7 s base) (fun r=>sm (.sl ZdQ) r.1∧Src r.2):=by
 unfold Z7
 refine (ZeW hs base).bind fun r0 ⟨a,h0⟩=>?_
 refine (ZeW h0 base).bind fun r1 ⟨b,h1⟩=>?_
 refine .ret ⟨smL (by dsimp only [List.length_cons,List.length_nil];omega) (fun x hx=>?_),h1⟩
 rcases List.mem_cons.1 hx with rfl | hx
 ·exact a
 ·rw [List.mem_singleton] at hx
  rw [hx];exact b
theorem Zbm {s:Za} (hs:Src s) (k f t se:Int):Gets (Yf s k f t se) (fun r=>sm Zmv r.1∧Src r.2):=by
 unfold Yf
 split
 ·refine (Zf hs 10).bind fun r0 ⟨_,h0⟩=>?_
  refine (Zbg h0 _).bind fun r1 ⟨a,h1⟩=>?_
  exact .ret ⟨⟨trivial,trivial,trivial,trivial,a,smL (by simp) (by simp),trivial⟩,h1⟩
 ·refine (Zf hs 20).bind fun r0 ⟨_,h0⟩=>?_
  refine (Zbg h0 _).bind fun r1 ⟨a,h1⟩=>?_
  refine (Zbg h1 _).bind fun r2 ⟨b,h2⟩=>?_
  exact .ret ⟨⟨trivial,trivial,trivial,trivial,a,b,trivial⟩,h2⟩
theorem JE {c:QG} {pin b:Int} (hu:(0:Int)≤IntKind.wrap IntKind.u64 pin) (hbit:Wq ((1:Int)*(2:Int) ^ Min.min (Int.toNat (IntKind.wrap IntKind.u64 pin)) (IntKind.bits IntKind.i64))=b) (hL:(QG.Truth c).length≤8) (b0:0≤b) (b1:b≤8)
  (hb:∀ i:Int,0≤i→i<((QG.Truth c).length:Int)→Go.bits Go.BinOp.and IntKind.i64 i b=0→i+b<((QG.Truth c).length:Int)):Gets (X5 c pin) (fun _=>True):=by
 unfold X5
 refine .guard hu ?_
 refine Gets.loop (fun v=>0≤v.2.2.1∧v.2.2.1≤8) (fun v=>(8-v.2.2.1).toNat) ⟨by dsimp only;omega,by dsimp only;omega⟩ ?_
 rintro ⟨ra,lo,i,⟨⟩⟩ ⟨i0,i1⟩
 dsimp only at i0 i1
 show Gets (Xb c pin ra lo i) _
 unfold Xb
 have e1:Wq (i+1)=i+1:=XD (by omega) (by omega)
 have e2:Wq (i+b)=i+b:=XD (by omega) (by omega)
 simp only [hbit,e1,e2]
 split
 ·rename_i hi
  have nx:∀ r l:Bool,Gets (some (.inl (r,l,i+1,()):(Bool×Bool×Int×Unit) ⊕ Int)) (Rnd (fun v:Bool×Bool×Int×Unit=>0≤v.2.2.1∧v.2.2.1≤8) (fun v=>(8-v.2.2.1).toNat) (8-i).toNat (fun _=>True)):=fun r l =>
   .ret ⟨⟨by dsimp only;omega,by dsimp only;omega⟩,by dsimp only;omega⟩
  split
  ·rename_i hz
   have hlt:=hb i i0 hi hz
   repeat' first
    | exact nx _ _
    | split
    | refine Gets.at (by omega) (by omega) fun _ _ _=>?_
  ·exact nx _ _
 ·repeat' first
   | exact Gets.ret (show Rnd _ _ _ (fun _=>True) (.inr _) from trivial)
   | split
theorem eight {i:Int} (h0:0≤i) (h1:i<8):i=0∨i=1∨i=2∨i=3∨i=4∨i=5∨i=6∨i=7:=by omega
theorem Zii {c:QG} {pin:Int} (h:((QG.Truth c).length=2∧pin=0)∨((QG.Truth c).length=4∧(pin=0∨pin=1))∨((QG.Truth c).length=8∧(pin=0∨pin=1∨pin=2))):Gets (X5 c pin) (fun _=>True):=by
 have k0:∀ L:Int,(L=2∨L=4∨L=8)→∀ i:Int,0≤i→i<L→Go.bits Go.BinOp.and IntKind.i64 i 1=0→i+1<L:=by
  intro L hL i h0 h1 hz
  rcases eight h0 (by omega) with rfl | rfl | rfl | rfl | rfl | rfl | rfl | rfl<;>first | omega | exact absurd hz (by decide)
 have k1:∀ L:Int,(L=4∨L=8)→∀ i:Int,0≤i→i<L→Go.bits Go.BinOp.and IntKind.i64 i 2=0→i+2<L:=by
  intro L hL i h0 h1 hz
  rcases eight h0 (by omega) with rfl | rfl | rfl | rfl | rfl | rfl | rfl | rfl<;>first | omega | exact absurd hz (by decide)
 have k2:∀ L:Int,L=8→∀ i:Int,0≤i→i<L→Go.bits Go.BinOp.and IntKind.i64 i 4=0→i+4<L:=by
  intro L hL i h0 h1 hz
  rcases eight h0 (by omega) with rfl | rfl | rfl | rfl | rfl | rfl | rfl | rfl<;>first | omega | exact absurd hz (by decide)
 rcases h with ⟨hl,rfl⟩ | ⟨hl,rfl | rfl⟩ | ⟨hl,rfl | rfl | rfl⟩
 ·exact JE (b:=1) (by decide) (by decide) (by omega) (by omega) (by omega) (k0 _ (by omega))
 ·exact JE (b:=1) (by decide) (by decide) (by omega) (by omega) (by omega) (k0 _ (by omega))
 ·exact JE (b:=2) (by decide) (by decide) (by omega) (by omega) (by omega) (k1 _ (by omega))
 ·exact JE (b:=1) (by decide) (by decide) (by omega) (by omega) (by omega) (k0 _ (by omega))
 ·exact JE (b:=2) (by decide) (by decide) (by omega) (by omega) (by omega) (k1 _ (by omega))
 ·exact JE (b:=4) (by decide) (by decide) (by omega) (by omega) (by omega) (k2 _ (by omega))
theorem Zar {s:Za} (hs:Src s) {nm:List UInt8} (hn:nm.length≤5) {tr:List Int} (ht:tr.length=2∨tr.length=4∨tr.length=8):Gets (Y3 s nm tr) (fun r=>sm Zin r.1∧Src r.2):=by
 unfold Y3
 refine (Zf hs 50).bind fun r0 ⟨_,h0⟩=>?_
 refine (Zf h0 80).bind fun r1 ⟨_,h1⟩=>?_
 refine Gets.loop (fun v=>((v.1.length=0∧v.2.1=1)∨(v.1.length=1∧v.2.1=2)∨(v.1.length=2∧v.2.1=4)∨(v.1.length=3∧v.2.1=8))∧v.2.1≤(tr.length:Int)∧(∀ x∈v.1,sm Zl9 x)∧Src (v.2.2.1,v.2.2.2.1,v.2.2.2.2.1,())) (fun v=>(8-v.2.1).toNat)
  ⟨.inl ⟨rfl,rfl⟩,by dsimp only;omega,fun x hx=>(by cases hx),h1⟩ ?_
 rintro ⟨pins,n,c0,c1,c2,⟨⟩⟩ ⟨i1,i2,i3,i4⟩
 dsimp only at i1 i2 i3 i4
 show Gets (Xt nm tr r0 r1 pins n c0 c1 c2) _
 unfold Xt
 split
 ·rename_i hlt
  refine .at (by omega) (by simp only [List.length_cons,List.length_nil];omega) fun x hx _=>?_
  have hx1:x.length≤1:=by
   simp only [List.mem_cons,List.not_mem_nil,or_false] at hx
   rcases hx with rfl | rfl | rfl | rfl<;>exact Nat.le_refl _
  refine (Zf i4 9).bind fun r ⟨_,h2⟩=>?_
  have e1:Wq (2*n)=2*n:=XD (by omega) (by omega)
  rw [e1]
  refine .guard (by simp only [List.length_cons,List.length_nil];omega) (.ret ⟨⟨?_,by dsimp only;omega,Yi i3 ⟨smS (by (try dsimp only);omega),trivial,trivial,trivial,trivial⟩,h2⟩,by dsimp only;omega⟩)
  dsimp only
  simp only [List.length_append,List.length_cons,List.length_nil]
  omega
 ·refine .guard (by simp only [List.length_cons,List.length_nil];omega) ?_
  refine Gets.loop (fun v=>0≤v.2.1∧v.2.1≤3∧(v.1.length:Int)≤v.2.1∧(∀ x∈v.1,sm Zmv x)∧Src (v.2.2.1,v.2.2.2.1,v.2.2.2.2.1,())) (fun v=>(3-v.2.1).toNat) ⟨by dsimp only;omega,by dsimp only;omega,by dsimp only [List.length_nil];omega,fun x hx=>(by cases hx),i4⟩ ?_
  rintro ⟨arcs,p,d0,d1,d2,⟨⟩⟩ ⟨j0,j1,j2,j3,j4⟩
  dsimp only at j0 j1 j2 j3 j4
  show Gets (Xr nm tr r0 r1 pins arcs p d0 d1 d2) _
  unfold Xr
  have e1:Wq (p+1)=p+1:=XD (by omega) (by omega)
  rw [e1]
  split
  ·rename_i hp
   refine (Zii (by
    show (tr.length=2∧p=0)∨(tr.length=4∧(p=0∨p=1))∨(tr.length=8∧(p=0∨p=1∨p=2))
    omega)).bind fun se _=>?_
   split
   ·exact .ret ⟨⟨by dsimp only;omega,by dsimp only;omega,by dsimp only;omega,j3,j4⟩,by dsimp only;omega⟩
   ·refine (Zbm j4 1 p _ se).bind fun r ⟨ha,h2⟩=>?_
    refine .guard (by simp only [List.length_cons,List.length_nil];omega) (.ret ⟨⟨by dsimp only;omega,by dsimp only;omega,?_,Yi j3 ha,h2⟩,by dsimp only;omega⟩)
    dsimp only
    simp only [List.length_append,List.length_cons,List.length_nil]
    omega
  ·refine .ret ⟨⟨smS (by (try dsimp only);omega),trivial,smL ?_ (Yi i3 ⟨smS (by dsimp only [List.length_cons,List.length_nil];omega),trivial,trivial,trivial,trivial⟩),smL (by (try dsimp only);omega) j3,smI (by (try dsimp only);omega),trivial,trivial,trivial⟩,j4⟩
   (try dsimp only)
   simp only [List.length_append,List.length_cons,List.length_nil]
   omega
theorem Zde {s:Za} (hs:Src s) {nm:List UInt8} (hn:nm.length≤5) (k e:Int):Gets (Yq s nm k e) (fun r=>sm Zin r.1∧Src r.2):=by
 have hp:∀ a b:Int,sm (.sl Zl9) [([(100:UInt8)],(1:Int),a,Bool.false,()),([(99:UInt8),(107:UInt8)],(1:Int),b,Bool.true,()),([(113:UInt8)],(2:Int),(0:Int),Bool.false,())]:=fun a b=>by
  refine smL (by (try dsimp only);simp only [List.length_cons,List.length_nil];omega) (fun x hx=>?_)
  simp only [List.mem_cons,List.not_mem_nil,or_false] at hx
  rcases hx with rfl | rfl | rfl<;>exact ⟨smS (by simp only [List.length_cons,List.length_nil];omega),trivial,trivial,trivial,trivial⟩
 unfold Yq
 refine (Zf hs 50).bind fun r0 ⟨_,h0⟩=>?_
 refine (Zf h0 80).bind fun r1 ⟨_,h1⟩=>?_
 refine (Zf h1 9).bind fun r2 ⟨_,h2⟩=>?_
 refine (Zf h2 9).bind fun r3 ⟨_,h3⟩=>?_
 refine (Zbm h3 e 1 2 0).bind fun a0 ⟨g0,h4⟩=>?_
 refine (Zbm h4 4 1 0 0).bind fun a1 ⟨g1,h5⟩=>?_
 refine (Zbm h5 5 1 0 0).bind fun a2 ⟨g2,h6⟩=>?_
 have h3a:∀ x∈[a0.1,a1.1,a2.1],sm Zmv x:=fun x hx=>by
  simp only [List.mem_cons,List.not_mem_nil,or_false] at hx
  rcases hx with rfl | rfl | rfl
  ·exact g0
  ·exact g1
  ·exact g2
 split
 ·refine (Zbm h6 1 0 2 1).bind fun a3 ⟨g3,h7⟩=>?_
  refine .guard (by simp only [List.length_cons,List.length_nil];omega) (.ret ⟨⟨smS (by (try dsimp only);omega),trivial,hp _ _,smL (by (try dsimp only);simp only [List.length_append,List.length_cons,List.length_nil];omega) (Yi h3a g3),smI (by simp),trivial,trivial,trivial⟩,h7⟩)
 ·exact .ret ⟨⟨smS (by (try dsimp only);omega),trivial,hp _ _,smL (by (try dsimp only);simp only [List.length_cons,List.length_nil];omega) h3a,smI (by simp),trivial,trivial,trivial⟩,h6⟩
theorem ZkC {s:Za} (hs:Src s):Gets (Vf s) (fun r=>(sm Zc3 r.1∧(ZaF.Cells r.1).length=8)∧Src r.2):=by
 unfold Vf
 refine (Zar hs (by simp only [List.length_cons,List.length_nil];omega) (by simp)).bind fun r0 ⟨g0,h0⟩=>?_
 refine (Zar h0 (by simp only [List.length_cons,List.length_nil];omega) (by simp)).bind fun r1 ⟨g1,h1⟩=>?_
 refine (Zar h1 (by simp only [List.length_cons,List.length_nil];omega) (by simp)).bind fun r2 ⟨g2,h2⟩=>?_
 refine (Zar h2 (by simp only [List.length_cons,List.length_nil];omega) (by simp)).bind fun r3 ⟨g3,h3⟩=>?_
 refine (Zar h3 (by simp only [List.length_cons,List.length_nil];omega) (by simp)).bind fun r4 ⟨g4,h4⟩=>?_
 refine (Zde h4 (by simp only [List.length_cons,List.length_nil];omega) 2 2).bind fun r5 ⟨g5,h5⟩=>?_
 refine (Zde h5 (by simp only [List.length_cons,List.length_nil];omega) 2 3).bind fun r6 ⟨g6,h6⟩=>?_
 refine (Zde h6 (by simp only [List.length_cons,List.length_nil];omega) 3 2).bind fun r7 ⟨g7,h7⟩=>?_
 refine .ret ⟨⟨⟨smL (by (try dsimp only);simp only [List.length_cons,List.length_nil];omega) (fun x hx=>?_),trivial⟩,rfl⟩,h7⟩
 simp only [List.mem_cons,List.not_mem_nil,or_false] at hx
 rcases hx with rfl | rfl | rfl | rfl | rfl | rfl | rfl | rfl<;>assumption
/-
  Plain laws: what the draws of designs, wires and blocks yield.
-/
def Ziw (x:Zz):Prop:=(∃ r,Zz.Name x=117::r∧r.length≤2)∧(2≤(Zz.Zbh x).length∧(Zz.Zbh x).length≤4)
def ZnG (s:List UInt8):Prop:=∃ r,s=110::r∧r.length≤2
def Zkb (p:Zah):Prop:=(Zah.Name p).length≤2
structure Zll (d:Zp):Prop where
 n0:2≤(Zp.Instances d).length
 n1:(Zp.Instances d).length≤9
 inst:∀ x∈Zp.Instances d,Ziw x
 nl:(Zp.Zbh d).length=(Zp.Instances d).length+3
 net:∀ s∈Zp.Zbh d,ZnG s
 p0:4≤(Zp.Vk d).length
 p1:(Zp.Vk d).length≤5
 port:∀ p∈Zp.Vk d,Zkb p
theorem ZgJ {s:Za} (hs:Src s) {most:Int} (hm1:1≤most) (hm2:most≤8) (wild:Bool):Gets (Vh s most wild) (fun r=>Zll r.1∧Src r.2):=by
 unfold Vh
 have em:Wq (most-1)=most-1:=XD (by omega) (by omega)
 rw [em]
 refine (Zf hs _).bind fun r0 ⟨⟨a0,a1⟩,h0⟩=>?_
 have e:Wq (2+r0.1)=2+r0.1:=XD (by omega) (by omega)
 rw [e]
 have hN:2≤2+r0.1∧2+r0.1≤9:=by omega
 generalize 2+r0.1=N at hN
 refine Gets.loop (fun v=>0≤v.2.2.1∧(v.1.length:Int)+v.2.2.1=N∧v.2.1.length=v.1.length+3∧(∀ x∈v.1,Ziw x)∧(∀ x∈v.2.1,ZnG x)∧Src (v.2.2.2.1,v.2.2.2.2.1,v.2.2.2.2.2.1,())) (fun v=>v.2.2.1.toNat)
  ⟨by dsimp only;omega,by dsimp only [List.length_nil];omega,rfl,fun x hx=>(by cases hx),fun x hx=>?_,h0⟩ ?_
 ·simp only [List.nil_append,List.mem_cons,List.not_mem_nil,or_false] at hx
  rcases hx with rfl | rfl | rfl
  ·exact ⟨_,rfl,Nat.le_refl _⟩
  ·exact ⟨_,rfl,by simp⟩
  ·exact ⟨_,rfl,by simp⟩
 rintro ⟨ins,nets,n,c0,c1,c2,⟨⟩⟩ ⟨i1,i2,i3,i4,i5,i6⟩
 dsimp only at i1 i2 i3 i4 i5 i6
 show Gets (Xx wild ins nets n c0 c1 c2) _
 unfold Xx
 split
 ·rename_i hn
  refine (Zf i6 12).bind fun r ⟨⟨b0,b1⟩,h1⟩=>?_
  refine .at b0 (by simp only [List.length_cons,List.length_nil];omega) fun x hx _=>?_
  have hx7:0≤x∧x≤7:=by
   simp only [List.mem_cons,List.not_mem_nil,or_false] at hx
   omega
  refine (ZcZ (n:=(ins.length:Int)) (by omega) (by omega)).bind fun nm hnm=>?_
  refine .guard (by simp only [List.length_cons,List.length_nil];omega) ?_
  refine Gets.loop (fun v=>0≤v.1∧v.1≤3∧(v.2.2.2.2.1.length:Int)=v.1∧Src (v.2.1,v.2.2.1,v.2.2.2.1,())) (fun v=>(3-v.1).toNat) ⟨by dsimp only;omega,by dsimp only;omega,rfl,h1⟩ ?_
  rintro ⟨p,d0,d1,d2,l,⟨⟩⟩ ⟨j0,j1,j2,j3⟩
  dsimp only at j0 j1 j2 j3
  show Gets (Xv ins nets n x nm p d0 d1 d2 l) _
  unfold Xv
  refine .at hx7.1 (by simp only [List.length_cons,List.length_nil];omega) fun k hk _=>?_
  have hk4:2≤k∧k≤4:=by
   simp only [List.mem_cons,List.not_mem_nil,or_false] at hk
   omega
  have ek:Wq (k-1)=k-1:=XD (by omega) (by omega)
  have ep:Wq (p+1)=p+1:=XD (by omega) (by omega)
  have en:Wq (n-1)=n-1:=XD (by omega) (by omega)
  simp only [ek,ep,en]
  split
  ·rename_i hpk
   refine (Zf j3 _).bind fun r2 ⟨_,h2⟩=>?_
   refine (Zf h2 3).bind fun r3 ⟨_,h3⟩=>?_
   repeat' first
    | split
    | refine Gets.guard (by simp only [List.length_append,List.length_cons,List.length_nil];omega) ?_
    | exact .ret ⟨⟨by dsimp only;omega,by dsimp only;omega,by dsimp only;simp only [List.length_append,List.length_cons,List.length_nil];omega,h3⟩,by dsimp only;omega⟩
  ·refine .guard (by simp only [List.length_append,List.length_cons,List.length_nil];omega) ?_
   refine .guard (by simp only [List.length_append,List.length_cons,List.length_nil];omega) ?_
   refine (ZcZ (n:=(nets.length:Int)) (by omega) (by omega)).bind fun nn hnn=>?_
   refine .guard (by simp only [List.length_append,List.length_cons,List.length_nil];omega) ?_
   refine .guard (by simp only [List.length_append,List.length_cons,List.length_nil];omega) ?_
   refine .guard (by simp only [List.length_append,List.length_cons,List.length_nil];omega) ?_
   refine .ret ⟨⟨by dsimp only;omega,by dsimp only;simp only [List.length_append,List.length_cons,List.length_nil];omega,by dsimp only;simp only [List.length_append,List.length_cons,List.length_nil];omega,Yi i4 ⟨⟨nm,rfl,hnm⟩,?_⟩,Yi i5 ⟨nn,rfl,hnn⟩,j3⟩,by dsimp only;omega⟩
   show 2≤List.length ([]++l++[_])∧List.length ([]++l++[_])≤4
   simp only [List.length_append,List.length_cons,List.length_nil]
   omega
 ·rename_i hn
  refine Gets.loop (fun v=>0≤v.1∧v.1≤9∧v.2.2.2.2.1.length=ins.length∧(∀ x∈v.2.2.2.2.1,Ziw x)∧Src (v.2.1,v.2.2.1,v.2.2.2.1,())) (fun v=>(9-v.1).toNat) ⟨by dsimp only;omega,by dsimp only;omega,rfl,i4,i6⟩ ?_
  rintro ⟨p,d0,d1,d2,l,⟨⟩⟩ ⟨j0,j1,j2,j3,j4⟩
  dsimp only at j0 j1 j2 j3 j4
  show Gets (Xw wild nets p d0 d1 d2 l) _
  unfold Xw
  have ep:Wq (p+1)=p+1:=XD (by omega) (by omega)
  simp only [ep]
  split
  ·rename_i hp
   refine (Zf j4 4).bind fun r ⟨_,h1⟩=>?_
   split
   ·refine .at j0 hp fun x hx hxi=>?_
    have hxd:=j3 x hx
    have st:∀ v:Int,Gets ((Zc r.2 v).bind fun l01Next2=>(atI x.snd.snd.fst (0:Int)).bind fun x1=>some (.inl (p+1,l01Next2.snd.fst,l01Next2.snd.snd.fst,l01Next2.snd.snd.snd.fst,List.set l (Int.toNat p) (x.fst,x.snd.fst,List.set x.snd.snd.fst (Int.toNat (0:Int)) (Wq ((1:Int)+l01Next2.fst)),()),()):(Int×(List Int)×Int×Int×(List (List UInt8×Int×List Int×Unit))×Unit) ⊕ (((List Zz)×(List (List UInt8))×Int×(List Int)×Int×Int×Unit) ⊕ (Zp×Za))))
      (Rnd (fun v:Int×(List Int)×Int×Int×(List (List UInt8×Int×List Int×Unit))×Unit=>0≤v.1∧v.1≤9∧v.2.2.2.2.1.length=ins.length∧(∀ x∈v.2.2.2.2.1,Ziw x)∧Src (v.2.1,v.2.2.1,v.2.2.2.1,())) (fun v=>(9-v.1).toNat) (9-p).toNat
       (Rnd (fun v:(List Zz)×(List (List UInt8))×Int×(List Int)×Int×Int×Unit=>0≤v.2.2.1∧(v.1.length:Int)+v.2.2.1=N∧v.2.1.length=v.1.length+3∧(∀ x∈v.1,Ziw x)∧(∀ x∈v.2.1,ZnG x)∧Src (v.2.2.2.1,v.2.2.2.2.1,v.2.2.2.2.2.1,())) (fun v=>v.2.2.1.toNat) n.toNat (fun r=>Zll r.1∧Src r.2))):=fun v=>by
     refine (Zf h1 v).bind fun r2 ⟨_,h2⟩=>?_
     refine .at (by omega) (by have:=hxd.2.1;show (0:Int)<((Zz.Zbh x).length:Int);omega) fun _ _ _=>?_
     refine .ret ⟨⟨by dsimp only;omega,by dsimp only;omega,by dsimp only;rw [List.length_set];exact j2,Ze7 j3 ⟨hxd.1,?_⟩,h2⟩,by dsimp only;omega⟩
     show 2≤(List.set (Zz.Zbh x) _ _).length∧(List.set (Zz.Zbh x) _ _).length≤4
     rw [List.length_set]
     exact hxd.2
    repeat' first
     | exact st _
     | split
     | exact .ret ⟨⟨by dsimp only;omega,by dsimp only;omega,by dsimp only;rw [List.length_set];exact j2,Ze7 j3 hxd,h1⟩,by dsimp only;omega⟩
   ·exact .ret ⟨⟨by dsimp only;omega,by dsimp only;omega,j2,j3,h1⟩,by dsimp only;omega⟩
  ·refine .guard (by simp only [List.length_append,List.length_cons,List.length_nil];omega) ?_
   refine (Zf j4 2).bind fun r ⟨_,h1⟩=>?_
   have four:∀ a:Int,∀ p∈(([]:List (List UInt8×Int×Int×Unit))++[([(99:UInt8),(107:UInt8)],(1:Int),(0:Int),()),([(97:UInt8)],(1:Int),(1:Int),()),([(98:UInt8)],(1:Int),(2:Int),())]++[([(121:UInt8)],(2:Int),a,())]),Zkb p:=fun a p hp=>by
    simp only [List.nil_append,List.cons_append,List.mem_cons,List.not_mem_nil,or_false] at hp
    unfold Zkb
    rcases hp with rfl | rfl | rfl | rfl
    ·exact Nat.le_refl 2
    ·show 1≤2;omega
    ·show 1≤2;omega
    ·show 1≤2;omega
   split
   ·refine (Zf h1 _).bind fun r2 ⟨_,h2⟩=>?_
    refine .guard (by simp only [List.length_append,List.length_cons,List.length_nil];omega) ?_
    refine .ret ⟨⟨?_,?_,j3,?_,i5,?_,?_,Yi (four _) (show 1≤2 by omega)⟩,h2⟩
    ·show 2≤l.length;omega
    ·show l.length≤9;omega
    ·show nets.length=l.length+3;omega
    ·show 4≤List.length (_++_++_++_);simp only [List.length_append,List.length_cons,List.length_nil];omega
    ·show List.length (_++_++_++_)≤5;simp only [List.length_append,List.length_cons,List.length_nil];omega
   ·refine .ret ⟨⟨?_,?_,j3,?_,i5,?_,?_,four _⟩,h1⟩
    ·show 2≤l.length;omega
    ·show l.length≤9;omega
    ·show nets.length=l.length+3;omega
    ·show 4≤List.length (_++_++_);simp only [List.length_append,List.length_cons,List.length_nil];omega
    ·show List.length (_++_++_)≤5;simp only [List.length_append,List.length_cons,List.length_nil];omega
theorem Zll.few {d:Zp} (h:Zll d):Few d:=⟨by have:=h.n1;omega,by have:=h.p1;omega,fun x hx=>by have:=(h.inst x hx).2.2;omega⟩
theorem Zll.sm {d:Zp} (h:Zll d):sm ZdN d:=by
 have:=h.n1;have:=h.p1;have:=h.nl
 refine ⟨smL (by show (Zp.Instances d).length≤_;omega) (fun x hx=>?_),smL (by show (Zp.Zbh d).length≤_;omega) (fun x hx=>?_),smL (by show (Zp.Vk d).length≤_;omega) (fun x hx=>?_),trivial⟩
 ·obtain ⟨⟨r,e,hr⟩,h2⟩:=h.inst x hx
  refine ⟨smS ?_,trivial,smI ?_,trivial⟩
  ·show (Zz.Name x).length≤_
   rw [e,List.length_cons];omega
  ·show (Zz.Zbh x).length≤_
   omega
 ·obtain ⟨r,e,hr⟩:=h.net x hx
  refine smS ?_
  rw [e,List.length_cons];omega
 ·have:=h.port x hx
  unfold Zkb at this
  exact ⟨smS (by show (Zah.Name x).length≤_;omega),trivial,trivial,trivial⟩
def Ziz (w:QH):Prop:=(1≤(QH.Parent w).length∧(QH.Parent w).length≤4)∧(QH.Res w).length=(QH.Parent w).length∧(QH.Cap w).length=(QH.Parent w).length∧(QH.ZnH w).length≤100
theorem Ziz.sm {w:QH} (h:Ziz w):sm ZjY w:=by
 obtain ⟨h1,h2,h3,h4⟩:=h
 exact ⟨smI (by show (QH.Parent w).length≤_;omega),smI (by show (QH.Res w).length≤_;omega),smI (by show (QH.Cap w).length≤_;omega),smI (by show (QH.ZnH w).length≤_;omega),trivial⟩
theorem ZgS (l:List Int) (h:l.length≤1048576):XT l=some l:=by
 have h2:((([]:List Int).length+l.length)*8≤140737488355328):=by simp only [List.length_nil];omega
 unfold XT
 first
  | (rw [ZB h2,List.nil_append])
  | (rw [ZB h2];rfl)
  | rfl
theorem Zj6 {s:Za} (hs:Src s) {k:Int} (h0:0≤k) (h1:k≤100):Gets (Xi s k) (fun r=>Ziz r.1∧Src r.2):=by
 unfold Xi
 refine (Zf hs 6).bind fun r0 ⟨_,g0⟩=>?_
 have hl:Qi k r0.1=some ([(-1:Int)],[(0:Int)],[r0.1],List.replicate (Int.toNat k) (0:Int),()):=by
  unfold Qi
  rw [ZB (by omega),ZB (by omega),ZB (by omega),ZB (by omega)]
 rw [hl,Bq]
 refine (Zf g0 4).bind fun r1 ⟨⟨a,b⟩,g1⟩=>?_
 refine Gets.loop (fun v=>0≤v.1∧(v.2.2.2.2.1.length:Int)+v.1=1+r1.1∧1≤v.2.2.2.2.1.length∧v.2.2.2.2.2.1.length=v.2.2.2.2.1.length∧v.2.2.2.2.2.2.1.length=v.2.2.2.2.1.length∧v.2.2.2.2.2.2.2.1.length≤100∧Src (v.2.1,v.2.2.1,v.2.2.2.1,())) (fun v=>v.1.toNat)
  ⟨a,by show ((1:Nat):Int)+r1.1=1+r1.1;omega,Nat.le_refl _,rfl,rfl,by show (List.replicate (Int.toNat k) (0:Int)).length≤100;rw [List.length_replicate];omega,g1⟩ ?_
 rintro ⟨n,c0,c1,c2,l1,l2,l3,l4,⟨⟩⟩ ⟨i0,i1,i2,i3,i4,i5,i6⟩
 dsimp only at i0 i1 i2 i3 i4 i5 i6
 show Gets (Yx n c0 c1 c2 l1 l2 l3 l4) _
 unfold Yx
 have en:Wq (n-1)=n-1:=XD (by omega) (by omega)
 simp only [en]
 split
 ·rw [ZgS l1 (by omega),Bq,ZgS l2 (by omega),ZgS l3 (by omega)]
  refine (Zf i6 _).bind fun r2 ⟨_,h2⟩=>?_
  refine .guard (by simp only [List.length_append,List.length_cons,List.length_nil];omega) ?_
  rw [Bq]
  refine (Zf h2 _).bind fun r3 ⟨_,h3⟩=>?_
  refine .guard (by simp only [List.length_append,List.length_cons,List.length_nil];omega) ?_
  rw [Bq]
  refine (Zf h3 _).bind fun r4 ⟨_,h4⟩=>?_
  refine .guard (by simp only [List.length_append,List.length_cons,List.length_nil];omega) ?_
  refine .ret ⟨⟨by dsimp only;omega,?_,?_,?_,?_,i5,h4⟩,by dsimp only;omega⟩
  all_goals
   dsimp only
   simp only [List.length_append,List.length_cons,List.length_nil]
   omega
 ·refine Gets.loop (fun v=>0≤v.1∧v.1≤100∧v.2.2.2.2.1.length=l4.length∧Src (v.2.1,v.2.2.1,v.2.2.2.1,())) (fun v=>(100-v.1).toNat) ⟨by dsimp only;omega,by dsimp only;omega,rfl,i6⟩ ?_
  rintro ⟨p,d0,d1,d2,l,⟨⟩⟩ ⟨j0,j1,j2,j3⟩
  dsimp only at j0 j1 j2 j3
  show Gets (Yw l1 l2 l3 p d0 d1 d2 l) _
  unfold Yw
  have ep:Wq (p+1)=p+1:=XD (by omega) (by omega)
  simp only [ep]
  split
  ·rename_i hp
   refine (Zf j3 _).bind fun r2 ⟨_,h2⟩=>?_
   refine .at j0 hp fun _ _ _=>?_
   exact .ret ⟨⟨by dsimp only;omega,by dsimp only;omega,by dsimp only;rw [List.length_set];exact j2,h2⟩,by dsimp only;omega⟩
  ·refine .ret ⟨⟨⟨?_,?_⟩,i3,i4,?_⟩,j3⟩
   ·exact i2
   ·show l1.length≤4;omega
   ·show l.length≤100;omega
structure ZfM (b:Zv):Prop where
 lib:sm Zc3 (Zv.Library b)
 des:Zll (Zv.Design b)
 wl:(Zv.ZlA b).length=(Zp.Zbh (Zv.Design b)).length
 wires:∀ w∈Zv.ZlA b,Ziz w
theorem ZfM.sm {b:Zv} (h:ZfM b):sm ZjX b:=by
 have:=h.wl;have:=h.des.nl;have:=h.des.n1
 exact ⟨h.lib,h.des.sm,smL (by show (Zv.ZlA b).length≤_;omega) (fun w hw=>(h.wires w hw).sm),trivial⟩
theorem ZeD {s:Za} (hs:Src s) {most:Int} (hm1:1≤most) (hm2:most≤8) (wild:Bool):Gets (Qz s most wild) (fun r=>ZfM r.1∧Src r.2):=by
 unfold Qz
 refine (ZkC hs).bind fun r0 ⟨hl,h0⟩=>?_
 refine (ZgJ h0 hm1 hm2 wild).bind fun r1 ⟨hd,h1⟩=>?_
 have hnl:=hd.nl
 have hn1:=hd.n1
 refine Gets.loop (fun v=>0≤v.2.1∧v.2.1≤((Zp.Zbh r1.1).length:Int)∧(v.1.length:Int)=v.2.1∧(∀ w∈v.1,Ziz w)∧Src (v.2.2.1,v.2.2.2.1,v.2.2.2.2.1,())) (fun v=>(100-v.2.1).toNat)
  ⟨by dsimp only;omega,by dsimp only;omega,rfl,fun w hw=>(by cases hw),h1⟩ ?_
 rintro ⟨ws,n,c0,c1,c2,⟨⟩⟩ ⟨i0,i1,i2,i3,i4⟩
 dsimp only at i0 i1 i2 i3 i4
 show Gets (Xy r0 r1 ws n c0 c1 c2) _
 unfold Xy
 have en:Wq (n+1)=n+1:=XD (by omega) (by omega)
 simp only [en]
 split
 ·rename_i hn
  have hn:n<((Zp.Zbh r1.1).length:Int):=hn
  rw [ZcT r1.1 n hd.few,Bq]
  have hsl:(sinks r1.1 n).length≤78:=Nat.le_trans (Zgm n (places r1.1) 0) (Zck hd.few)
  refine (Zj6 i4 (k:=((sinks r1.1 n).length:Int)) (by omega) (by omega)).bind fun r ⟨hw,h2⟩=>?_
  refine .guard (by simp only [List.length_append,List.length_cons,List.length_nil];omega) (.ret ⟨⟨by dsimp only;omega,by dsimp only;omega,?_,Yi i3 hw,h2⟩,by dsimp only;omega⟩)
  dsimp only
  simp only [List.length_append,List.length_cons,List.length_nil]
  omega
 ·rename_i hn
  have hn:¬n<((Zp.Zbh r1.1).length:Int):=hn
  refine .ret ⟨⟨hl.1,hd,?_,i3⟩,i4⟩
  show ws.length=(Zp.Zbh r1.1).length
  omega
/-
  Plain laws: what the draws of edits yield.
-/
def DN (d:Zp):Prop:=(Zp.Zbh d).length=(ZpY d).length+3∧(∃ r,(ZpY d)[0]?=some (117::r))∧∃ r,(Zp.Zbh d)[3]?=some (110::r)
theorem Zll.dn {d:Zp} (h:Zll d):DN d:=by
 have hn:=h.n0
 have hx:=List.getElem?_eq_getElem (show 0<(Zp.Instances d).length by omega)
 generalize (Zp.Instances d)[0]=x at hx
 have hs:=List.getElem?_eq_getElem (show 3<(Zp.Zbh d).length by have:=h.nl;omega)
 generalize (Zp.Zbh d)[3]'(by have:=h.nl;omega)=s at hs
 obtain ⟨⟨r,e,_⟩,_⟩:=h.inst x (List.mem_of_getElem? hx)
 obtain ⟨r2,e2,_⟩:=h.net s (List.mem_of_getElem? hs)
 refine ⟨by unfold ZpY;rw [List.length_map];exact h.nl,⟨r,?_⟩,⟨r2,by rw [hs,e2]⟩⟩
 unfold ZpY
 rw [List.getElem?_map,hx]
 exact congrArg some e
theorem ZAn {d d':Zp} (h:DN d) (h1:ZpY d'=ZpY d) (h2:Zp.Zbh d'=Zp.Zbh d):DN d':=by
 unfold DN
 rw [h1,h2]
 exact h
theorem ZzM {b:Zv} {e:Zbk} (h:ZtQ b e) (he:sm Zn2 e) (hd:DN (Zv.Design b)) {r:Zv} (hr:Zpy e b=some r):DN (Zv.Design r):=by
 have hB:=h.blk
 by_cases k1:Zbk.Kind e=1
 ·obtain ⟨p,x,c,c2,hp,h0,_,hx,_⟩:=h.poss.1 k1
  have hx2:(Zp.Instances (Zv.Design b))[p.1.toNat]?=some x:=by
   unfold atI at hx
   rw [if_pos h0] at hx
   exact hx
  rw [app1 hB k1 hp h0 hx2] at hr
  injection hr with hr
  subst hr
  refine ZAn hd ?_ ?_
  ·unfold swapped
   rw [hx2]
   show List.map Zz.Name (List.set _ _ _)=_
   rw [List.map_set]
   exact Zc0 (by rw [List.getElem?_map,hx2];rfl)
  ·unfold swapped
   rw [hx2]
 by_cases k2:Zbk.Kind e=2
 ·obtain ⟨p,c,hp,hpd,_⟩:=h.poss.2.1 k2
  rw [app2 h k2 (ZvB he).1 hp hpd] at hr
  injection hr with hr
  subst hr
  obtain ⟨d1,⟨r1,d2⟩,⟨r2,d3⟩⟩:=hd
  have e1:ZpY (ZtC b e p)=ZpY (Zv.Design b)++[Zbk.Name e]:=by
   show List.map Zz.Name (Zp.Instances (conn (Zv.Design b) p.1 p.2.1 _)++[Zum b e p])=_
   rw [List.map_append]
   exact congrArg (·++[Zbk.Name e]) (Zt9 (Zv.Design b) p.1 p.2.1 _)
  have e2:Zp.Zbh (ZtC b e p)=Zp.Zbh (Zv.Design b)++[Zbk.Name e]:=by
   show Zp.Zbh (conn (Zv.Design b) p.1 p.2.1 _)++[Zbk.Name e]=_
   rw [ZpO]
  have l1:=(List.getElem?_eq_some_iff.1 d2).1
  have l2:=(List.getElem?_eq_some_iff.1 d3).1
  show DN (ZtC b e p)
  unfold DN
  rw [e1,e2]
  refine ⟨by simp only [List.length_append,List.length_cons,List.length_nil];omega,⟨r1,?_⟩,⟨r2,?_⟩⟩
  ·rw [List.getElem?_append_left l1];exact d2
  ·rw [List.getElem?_append_left l2];exact d3
 by_cases k3:Zbk.Kind e=3
 ·have hL:=h.poss.2.2.1 k3
  obtain ⟨k,p,m,_,_,_,_,ha⟩:=app3 hB hL k3
  rw [ha] at hr
  injection hr with hr
  subst hr
  obtain ⟨x,c,w,m',hn,hx,_,_,_,_,_,_,_,hnm,_⟩:=hL
  obtain ⟨d1,⟨r1,d2⟩,⟨r2,d3⟩⟩:=hd
  have hil:(ZpY (Zv.Design b)).length=(Zp.Instances (Zv.Design b)).length:=List.length_map ..
  have hN1:(Zp.Zbh (Zv.Design b))[(Zp.Zbh (Zv.Design b)).length-1]?=some (Zz.Name x):=by
   have tN:Int.toNat (((Zp.Zbh (Zv.Design b)).length:Int)-1)=(Zp.Zbh (Zv.Design b)).length-1:=by omega
   unfold atI at hnm
   rw [if_pos (by omega),tN] at hnm
   exact hnm
  have hin:(ZpY (Zv.Design b))[(Zp.Instances (Zv.Design b)).length-1]?=some (Zz.Name x):=by
   show (List.map Zz.Name _)[_]?=_
   rw [List.getElem?_map,hx];rfl
  have h2:2≤(Zp.Instances (Zv.Design b)).length:=by
   rcases Nat.lt_or_ge 1 (Zp.Instances (Zv.Design b)).length with q | q
   ·exact q
   ·exfalso
    have q1:(Zp.Instances (Zv.Design b)).length=1:=by omega
    rw [q1] at hin hil
    rw [d1,hil] at hN1
    rw [show 1-1=0 from rfl,d2] at hin
    rw [show 1+3-1=3 from rfl,d3] at hN1
    injection hin with hin
    injection hN1 with hN1
    rw [←hin] at hN1
    injection hN1 with hN1
    exact absurd hN1 (by decide)
  have e1:ZpY (unD b p m)=(ZpY (Zv.Design b)).take ((Zp.Instances (Zv.Design b)).length-1):=by
   have:=Zt9 (Zv.Design b) p.1 p.2.1 m
   show List.map Zz.Name ((Zp.Instances (conn (Zv.Design b) p.1 p.2.1 m)).take _)=_
   rw [List.map_take,ZpC]
   exact congrArg (fun l=>List.take ((Zp.Instances (Zv.Design b)).length-1) l) this
  have e2:Zp.Zbh (unD b p m)=(Zp.Zbh (Zv.Design b)).take ((Zp.Zbh (Zv.Design b)).length-1):=by
   show (Zp.Zbh (conn (Zv.Design b) p.1 p.2.1 m)).take _=_
   rw [ZpO]
  show DN (unD b p m)
  unfold DN
  rw [e1,e2]
  refine ⟨by rw [List.length_take,List.length_take];omega,⟨r1,?_⟩,⟨r2,?_⟩⟩
  ·rw [List.getElem?_take,if_pos (by omega)];exact d2
  ·rw [List.getElem?_take,if_pos (by omega)];exact d3
 by_cases k4:Zbk.Kind e=4
 ·obtain ⟨p,hp,hpd,_⟩:=h.poss.2.2.2.1 k4
  obtain ⟨_,hn,_⟩:=h.range.2.1 k4
  rw [app4 hB k4 hp hpd hn] at hr
  injection hr with hr
  subst hr
  exact ZAn hd (Zt9 _ _ _ _) ZpO
 ·have k5:Zbk.Kind e=5:=by have:=h.blank;unfold Blank at this;omega
  rw [ZAS hB k5 (h.range.2.2 k5) (ZvB he).2] at hr
  injection hr with hr
  subst hr
  exact hd
def Zyx (b:Zv):Prop:=sm ZjX b∧(ZvC b→Zv.ZlA b≠[]→DN (Zv.Design b))
theorem DN.insts {d:Zp} (h:DN d):1≤(Zp.Instances d).length:=by
 obtain ⟨_,⟨r,e⟩,_⟩:=h
 have:=(List.getElem?_eq_some_iff.1 e).1
 unfold ZpY at this
 rw [List.length_map] at this
 omega
theorem Zzs {d:Zp} (hf:Few d) (i p:Int):Gets (Zs1 d i p) (fun _=>True):=by
 have hl:=Zck hf
 unfold Zs1
 rw [JF d hf,Bq]
 refine Gets.loop (fun v=>0≤v.1∧v.1≤100) (fun v=>(100-v.1).toNat) ⟨Int.le_refl _,by dsimp only;omega⟩ ?_
 rintro ⟨k,⟨⟩⟩ ⟨i0,i1⟩
 dsimp only at i0 i1
 show Gets (Ztj i p (places d) k) _
 unfold Ztj
 split
 ·rename_i hk
  have hk:k<((places d).length:Int):=hk
  have ek:Wq (k+1)=k+1:=XD (by omega) (by omega)
  simp only [ek]
  refine .at i0 hk fun x _ _=>?_
  repeat' first
   | exact Gets.ret (show Rnd _ _ _ (fun _=>True) (.inr _) from trivial)
   | exact .ret ⟨⟨by dsimp only;omega,by dsimp only;omega⟩,by dsimp only;omega⟩
   | split
 ·exact Gets.ret (show Rnd _ _ _ (fun _=>True) (.inr _) from trivial)
theorem Zyp {s:Za} (hs:Src s) {b:Zv} (hf:Few (Zv.Design b)) (hne:1≤(places (Zv.Design b)).length):Gets (ZpK s b) (fun r=>Src r.2):=by
 have hl:=Zck hf
 unfold ZpK
 rw [JF _ hf,Bq]
 refine (Zf hs _).bind fun r0 ⟨⟨a0,a1⟩,h0⟩=>?_
 refine Gets.loop (fun v=>(0≤v.1∧v.1<((places (Zv.Design b)).length:Int))∧0≤v.2.1∧v.2.1≤100) (fun v=>(100-v.2.1).toNat) ⟨⟨a0,by dsimp only;omega⟩,by dsimp only;omega,by dsimp only;omega⟩ ?_
 rintro ⟨k,i,⟨⟩⟩ ⟨⟨k0,k1⟩,i0,i1⟩
 dsimp only at k0 k1 i0 i1
 have fin:∀ k':Int,Gets ((Zc r0.snd (12:Int)).bind fun l01Next1 =>
   if l01Next1.fst=(0:Int) then
    (Zc l01Next1.snd (Wq ((↑(List.length (places (Zv.Design b))):Int)+(2:Int)))).bind fun l01Next2 =>
    some (.inr (Wq (l01Next2.fst-(1:Int)),l01Next2.snd))
   else
    some (.inr (k',l01Next1.snd):(Int×Int×Unit) ⊕ (Int×Za)))
   (Rnd (fun v:Int×Int×Unit=>(0≤v.1∧v.1<((places (Zv.Design b)).length:Int))∧0≤v.2.1∧v.2.1≤100) (fun v=>(100-v.2.1).toNat) (100-i).toNat (fun r=>Src r.2)):=fun k'=>by
  refine (Zf h0 12).bind fun r1 ⟨_,h1⟩=>?_
  split
  ·refine (Zf h1 _).bind fun r2 ⟨_,h2⟩=>?_
   exact .ret (show Src r2.2 from h2)
  ·exact .ret (show Src r1.2 from h1)
 show Gets (ZrX (places (Zv.Design b)) r0 k i) _
 unfold ZrX
 split
 ·rename_i hi
  have hi:i<((places (Zv.Design b)).length:Int):=hi
  refine .at k0 k1 fun x _ _=>?_
  split
  ·have ek:Wq (k+1)=k+1:=XD (by omega) (by omega)
   have ei:Wq (i+1)=i+1:=XD (by omega) (by omega)
   rw [ek,ei]
   refine .guard (by show ((places (Zv.Design b)).length:Int)≠0;omega) (.ret ⟨⟨⟨Int.tmod_nonneg _ (by omega),Int.tmod_lt_of_pos _ (by omega)⟩,by dsimp only;omega,by dsimp only;omega⟩,by dsimp only;omega⟩)
  ·exact fin k
 ·exact fin k
noncomputable def tl (b:Zv) (P:List Zk) (k p c n d:Int) (nm:List UInt8) (w:QH) (s:Za):Option (Zbk×Za) :=
 (Zc s (30:Int)).bind fun r =>
 if r.fst=(0:Int) then
  (Zc r.snd (7:Int)).bind fun r2=>some ((r2.fst,p,c,n,d,nm,w,()),r2.snd)
 else
  if r.fst=(1:Int) then
   (Zc r.snd (10:Int)).bind fun r2=>some ((k,p,Wq (r2.fst-(1:Int)),n,d,nm,w,()),r2.snd)
  else
   if r.fst=(2:Int) then
    (Zc r.snd (Wq ((↑(List.length (Zv.ZlA b)):Int)+(2:Int)))).bind fun r2=>some ((k,p,c,Wq (r2.fst-(1:Int)),d,nm,w,()),r2.snd)
   else
    if r.fst=(3:Int) then
     (Zc r.snd (Wq ((↑(List.length P):Int)+(2:Int)))).bind fun r2=>some ((k,Wq (r2.fst-(1:Int)),c,n,d,nm,w,()),r2.snd)
    else
     if r.fst=(4:Int) then
      some ((k,p,c,n,d,[(66:UInt8),(97:UInt8),(100:UInt8)],w,()),r.snd)
     else
      some ((k,p,c,n,d,nm,w,()),r.snd)
abbrev ZAb (r:Zbk×Za):Prop:=sm Zn2 r.1∧Src r.2
theorem ZxH {b:Zv} {P:List Zk} {k p c n d:Int} {nm:List UInt8} {w:QH} {s:Za} (hs:Src s) (hn:nm.length≤10) (hw:sm ZjY w):Gets (tl b P k p c n d nm w s) ZAb:=by
 have e:∀ (k p c n d:Int) (nm:List UInt8),nm.length≤10→sm Zn2 ((k,p,c,n,d,nm,w,()):Zbk):=fun k p c n d nm h=>⟨trivial,trivial,trivial,trivial,trivial,smS (by dsimp only;omega),hw,trivial⟩
 unfold tl
 refine (Zf hs 30).bind fun r ⟨_,h1⟩=>?_
 split
 ·exact (Zf h1 _).bind fun r2 ⟨_,h2⟩=>.ret ⟨e _ _ _ _ _ _ hn,h2⟩
 split
 ·exact (Zf h1 _).bind fun r2 ⟨_,h2⟩=>.ret ⟨e _ _ _ _ _ _ hn,h2⟩
 split
 ·exact (Zf h1 _).bind fun r2 ⟨_,h2⟩=>.ret ⟨e _ _ _ _ _ _ hn,h2⟩
 split
 ·exact (Zf h1 _).bind fun r2 ⟨_,h2⟩=>.ret ⟨e _ _ _ _ _ _ hn,h2⟩
 split
 ·exact .ret ⟨e _ _ _ _ _ _ (by show 3≤10;omega),h1⟩
 ·exact .ret ⟨e _ _ _ _ _ _ hn,h1⟩
abbrev ZAE:QH:=(([]:List Int),([]:List Int),([]:List Int),([]:List Int),())
theorem ZxB:sm ZjY ZAE:=Zvb
noncomputable def kd1 (b:Zv) (P:List Zk) (s:Za):Option (Zbk×Za) :=
 (Zc s (↑(List.length (Zp.Instances (Zv.Design b))):Int)).bind fun l01Next1 =>
 (atI (Zp.Instances (Zv.Design b)) l01Next1.fst).bind fun x0 =>
 (Zs1 (Zv.Design b) l01Next1.fst (Wq ((↑(List.length (Zz.Zbh x0)):Int)-(1:Int)))).bind fun l05Find0 =>
 (atI ([(1:Int),(0:Int),(3:Int),(2:Int),(4:Int),(6:Int),(5:Int),(7:Int)]) (Int.tmod (Zz.Cell x0) (8:Int))).bind fun x1 =>
 tl b P 1 l05Find0 x1 0 0 [] ZAE l01Next1.snd
noncomputable def kd2 (b:Zv) (P:List Zk) (s:Za):Option (Zbk×Za) :=
 (ZpK s b).bind fun l08DrawSink0 =>
 (Zc l08DrawSink0.snd (2:Int)).bind fun l01Next1 =>
 (Zc l01Next1.snd (3:Int)).bind fun l01Next2 =>
 (XG l01Next2.fst).bind fun l01Number0 =>
 Zj ((↑(List.length [(120:UInt8)]):Int)+(↑(List.length l01Number0):Int)≤(9223372036854775807:Int)) <|
 tl b P 2 l08DrawSink0.fst l01Next1.fst 0 0 ([(120:UInt8)]++l01Number0) ZAE l01Next2.snd
noncomputable def kd4 (b:Zv) (P:List Zk) (s:Za):Option (Zbk×Za) :=
 (ZpK s b).bind fun l08DrawSink0 =>
 (Zc l08DrawSink0.snd (↑(List.length (Zv.ZlA b)):Int)).bind fun l01Next1 =>
 (atI (Zv.ZlA b) l01Next1.fst).bind fun x0 =>
 (Zc l01Next1.snd (↑(List.length (QH.Parent x0)):Int)).bind fun l01Next2 =>
 tl b P 4 l08DrawSink0.fst 0 l01Next1.fst l01Next2.fst [] ZAE l01Next2.snd
noncomputable def kd5 (b:Zv) (P:List Zk) (s:Za):Option (Zbk×Za) :=
 (Zc s (↑(List.length (Zv.ZlA b)):Int)).bind fun l01Next1 =>
 (QT (Zv.Design b) l01Next1.fst).bind fun l05Sinks0 =>
 (Xi l01Next1.snd (↑(List.length l05Sinks0):Int)).bind fun l07DrawWire0 =>
 tl b P 5 0 0 l01Next1.fst 0 [] l07DrawWire0.fst l07DrawWire0.snd
theorem Zxf {s:Za} (hs:Src s) {b:Zv} (hb:Zyx b):Gets (Zs2 s b) ZAb:=by
 obtain ⟨hsm,hdn⟩:=hb
 unfold Zs2
 rw [Zrz b hsm,Bq]
 have un:Gets (some (((3:Int),(0:Int),(0:Int),(0:Int),(0:Int),([]:List UInt8),(([]:List Int),([]:List Int),([]:List Int),([]:List Int),()),()),s)) ZAb :=
  .ret ⟨⟨trivial,trivial,trivial,trivial,trivial,smS (by simp),ZxB,trivial⟩,hs⟩
 refine Gets.ite (fun hB=>?_) (fun _=>un)
 have hB:ZqJ b:=⟨(Zgv _).1 hB,hsm⟩
 refine Gets.ite (fun _=>un) (fun hw=>?_)
 have hf:=hB.ok.1.few
 have hwl:1≤(Zv.ZlA b).length:=by omega
 have hD:=hdn hB.ok (by intro q;rw [q] at hwl;simp at hwl)
 have hi:=hD.insts
 have hne:1≤(places (Zv.Design b)).length:=by
  have hx:=List.getElem?_eq_getElem (show 0<(Zp.Instances (Zv.Design b)).length by omega)
  generalize (Zp.Instances (Zv.Design b))[0]=x at hx
  obtain ⟨_,⟨c,hc,hcl⟩,_⟩:=hB.ok.1.2.2.1 x (List.mem_of_getElem? hx)
  have hc:(ZaF.Cells (Zv.Library b))[(Zz.Cell x).toNat]?=some c:=hc
  have h2:2≤(QG.ZoY c).length:=(hB.ok.1.1.2.1 c (List.mem_of_getElem? hc)).2.1.1
  have hn:=List.getElem?_eq_getElem (show 0<(Zz.Zbh x).length by omega)
  have:=(List.getElem?_eq_some_iff.1 (ZsY hx hn)).1
  omega
 rw [JF _ hf,Bq]
 have g1:∀ s',Src s'→Gets (kd1 b (places (Zv.Design b)) s') ZAb:=fun s' h=>by
  unfold kd1
  refine (Zf h _).bind fun r1 ⟨⟨a0,a1⟩,h1⟩=>?_
  refine .at a0 (by omega) fun x hx _=>?_
  obtain ⟨⟨c0,_⟩,_⟩:=hB.ok.1.2.2.1 x hx
  refine (Zzs hf _ _).bind fun f _=>?_
  have t0:=Int.tmod_nonneg (a:=Zz.Cell x) 8 c0
  have t1:=Int.tmod_lt_of_pos (Zz.Cell x) (show (0:Int)<8 by omega)
  refine .at t0 (by simp only [List.length_cons,List.length_nil];omega) fun y _ _=>?_
  exact ZxH h1 (by simp) ZxB
 have g2:∀ s',Src s'→Gets (kd2 b (places (Zv.Design b)) s') ZAb:=fun s' h=>by
  unfold kd2
  refine (Zyp h hf hne).bind fun r0 h0=>?_
  refine (Zf h0 2).bind fun r1 ⟨_,h1⟩=>?_
  refine (Zf h1 3).bind fun r2 ⟨⟨a0,a1⟩,h2⟩=>?_
  refine (ZcZ a0 (by omega)).bind fun nm hnm=>?_
  refine .guard (by simp only [List.length_cons,List.length_nil];omega) ?_
  exact ZxH h2 (by simp only [List.length_append,List.length_cons,List.length_nil];omega) ZxB
 have g3:∀ s',Src s'→Gets (tl b (places (Zv.Design b)) 3 0 0 0 0 [] ZAE s') ZAb:=fun s' h=>ZxH h (by simp) ZxB
 have g4:∀ s',Src s'→Gets (kd4 b (places (Zv.Design b)) s') ZAb:=fun s' h=>by
  unfold kd4
  refine (Zyp h hf hne).bind fun r0 h0=>?_
  refine (Zf h0 _).bind fun r1 ⟨⟨a0,a1⟩,h1⟩=>?_
  refine .at a0 (by omega) fun x hx _=>?_
  refine (Zf h1 _).bind fun r2 ⟨_,h2⟩=>?_
  exact ZxH h2 (by simp) ZxB
 have g5:∀ s',Src s'→Gets (kd5 b (places (Zv.Design b)) s') ZAb:=fun s' h=>by
  unfold kd5
  refine (Zf h _).bind fun r1 ⟨_,h1⟩=>?_
  rw [ZcT _ _ hf,Bq]
  have hsl:(sinks (Zv.Design b) r1.1).length≤78:=Nat.le_trans (Zgm r1.1 (places (Zv.Design b)) 0) (Zck hf)
  refine (Zj6 h1 (k:=((sinks (Zv.Design b) r1.1).length:Int)) (by omega) (by omega)).bind fun r2 ⟨hw,h2⟩=>?_
  exact ZxH h2 (by simp) hw.sm
 refine (Zf hs 8).bind fun r ⟨_,h1⟩=>?_
 repeat' first
  | exact g1 _ h1
  | exact g2 _ h1
  | exact g3 _ h1
  | exact g4 _ h1
  | exact g5 _ h1
  | refine Gets.ite (fun _=>?_) (fun _=>?_)
/-
  Plain laws: drawn edits applied; an edit, followed by its inverse, restores the block: the law FnEditInverse.
-/
theorem ZtQ.net {b:Zv} {e:Zbk} (h:ZtQ b e):1≤(Zp.Zbh (Zv.Design b)).length:=by
 have hB:=h.blk
 have at_:∀ {n:Int},Zre (Zv.Design b) n→1≤(Zp.Zbh (Zv.Design b)).length:=fun {n} hn=>by
  have:=hn.1;have:=hn.2;omega
 by_cases k1:Zbk.Kind e=1
 ·obtain ⟨p,x,c,c2,hp,_⟩:=h.poss.1 k1
  exact at_ (Zp0 hB.ok.1 hp.mem)
 by_cases k2:Zbk.Kind e=2
 ·obtain ⟨p,c,hp,_⟩:=h.poss.2.1 k2
  exact at_ (Zp0 hB.ok.1 hp.mem)
 by_cases k3:Zbk.Kind e=3
 ·obtain ⟨x,c,w,m,hn,hx,_,_,_,_,hm,_⟩:=h.poss.2.2.1 k3
  obtain ⟨_,_,hnet⟩:=hB.ok.1.2.2.1 x (List.mem_of_getElem? hx)
  exact at_ (hnet m (List.mem_of_getElem? (show (Zz.Zbh x)[0]?=some m from hm)))
 by_cases k4:Zbk.Kind e=4
 ·obtain ⟨p,hp,_⟩:=h.poss.2.2.2.1 k4
  exact at_ (Zp0 hB.ok.1 hp.mem)
 ·have k5:Zbk.Kind e=5:=by have:=h.blank;unfold Blank at this;omega
  exact at_ (h.range.2.2 k5)
theorem ZxX:Zyx ZyF:=⟨Zze,fun _ h=>absurd rfl h⟩
theorem ZxD (b:Zv) (e:Zbk) (hb:Zyx b) (he:sm Zn2 e):Gets (ZsB b e) (fun r=>Zyx r.1):=by
 obtain ⟨c,h2,h3⟩:=ZDW b e hb.1 he
 unfold ZsB
 rw [h2,Bq]
 by_cases hc:c=0
 ·have hC:=h3 hc
  obtain ⟨r,a1,a2,a3,_⟩:=ZzN hC he
  rw [if_pos hc,a2,Bq]
  have hw:=hC.blk.ok.2.1
  have hn:=hC.net
  exact .ret ⟨a3.sm,fun _ _=>ZzM hC he (hb.2 hC.blk.ok (by intro q;rw [q] at hw;simp only [List.length_nil] at hw;omega)) a1⟩
 ·rw [if_neg hc]
  exact .ret ZxX
theorem Zy9 {s:Za} (hs:Src s) {b:Zv} (hb:Zyx b) {most:Int} (h0:0≤most) (h1:most≤10):Gets (Zsr s b most) (fun r=>(r.1.length≤10∧∀ e∈r.1,sm Zn2 e)∧Src r.2):=by
 unfold Zsr
 rw [XD (n:=most+1) (by omega) (by omega)]
 refine (Zf hs _).bind fun r0 ⟨⟨a0,a1⟩,g0⟩=>?_
 refine Gets.loop (fun v=>0≤v.2.1∧v.2.1≤10∧(v.1.length:Int)+v.2.1≤10∧(∀ e∈v.1,sm Zn2 e)∧Src (v.2.2.1,v.2.2.2.1,v.2.2.2.2.1,())∧Zyx ((v.2.2.2.2.2.1,()),(v.2.2.2.2.2.2.1,v.2.2.2.2.2.2.2.1,v.2.2.2.2.2.2.2.2.1,()),v.2.2.2.2.2.2.2.2.2.1,())) (fun v=>v.2.1.toNat)
  ⟨a0,by dsimp only;omega,by dsimp only [List.length_nil];omega,fun x hx=>(by cases hx),g0,hb⟩ ?_
 rintro ⟨out,n,c0,c1,c2,c3,c4,c5,c6,c7,⟨⟩⟩ ⟨i0,i1,i2,i3,i4,i5⟩
 dsimp only at i0 i1 i2 i3 i4 i5
 show Gets (ZrL out n c0 c1 c2 c3 c4 c5 c6 c7) _
 unfold ZrL
 have en:Wq (n-1)=n-1:=XD (by omega) (by omega)
 rw [en]
 refine Gets.ite (fun hn=>?_) (fun _=>?_)
 ·refine (Zxf i4 i5).bind fun r ⟨he,h2⟩=>?_
  refine (ZxD _ _ i5 he).bind fun q hq=>?_
  refine Gets.ite (fun _=>?_) (fun _=>?_)
  ·exact .guard (by simp only [List.length_cons,List.length_nil];omega) (.ret ⟨⟨by dsimp only;omega,by dsimp only;omega,by dsimp only;simp only [List.length_append,List.length_cons,List.length_nil];omega,Yi i3 he,h2,hq⟩,by dsimp only;omega⟩)
  ·exact .ret ⟨⟨by dsimp only;omega,by dsimp only;omega,by dsimp only;omega,i3,h2,i5⟩,by dsimp only;omega⟩
 ·exact .ret (show (out.length≤10∧∀ e∈out,sm Zn2 e)∧Src (c0,c1,c2,()) from ⟨⟨by omega,i3⟩,i4⟩)
theorem ZFD {s:Za} (hs:Src s):Gets (Ztk s) (fun r=>(Zyx r.1∧Few (Zv.Design r.1))∧Src r.2):=by
 unfold Ztk
 refine (Zf hs 3).bind fun r0 ⟨_,h0⟩=>?_
 refine (ZeD h0 (most:=6) (by omega) (by omega) _).bind fun r1 ⟨hb,h1⟩=>?_
 obtain ⟨bl,bd,bw,bwi⟩:=hb
 have hdn:=bd.dn
 have hnl:=bd.nl
 have hn0:=bd.n0
 have hn1:=bd.n1
 have hwl:5≤(Zv.ZlA r1.1).length∧(Zv.ZlA r1.1).length≤12:=by omega
 refine (Zf h1 _).bind fun r2 ⟨⟨a0,a1⟩,h2⟩=>?_
 have a1:r2.1<((Zv.ZlA r1.1).length:Int):=by
  have a1:r2.1<((Zv.ZlA r1.1).length:Int)∨r2.1=0:=a1
  omega
 refine (Zf h2 20).bind fun r3 ⟨_,h3⟩=>?_
 have sw:∀ w∈Zv.ZlA r1.1,sm ZjY w:=fun w hw=>(bwi w hw).sm
 have set_:∀ (w:QH),sm ZjY w→sm (.sl ZjY) (List.set (Zv.ZlA r1.1) (Int.toNat r2.1) w):=fun w hw=>smL (by rw [List.length_set];omega) (Ze7 sw hw)
 have fin:∀ (ws:List QH) (t:Za),sm (.sl ZjY) ws→Src t→Gets (some ((r1.1.1,r1.1.2.1,ws,()),t)) (fun r:Zv×Za=>(Zyx r.1∧Few (Zv.Design r.1))∧Src r.2):=fun ws t hw ht =>
  .ret ⟨⟨⟨Zs0 bl bd.sm hw,fun _ _=>hdn⟩,bd.few⟩,ht⟩
 refine Gets.ite (fun _=>?_) (fun _=>?_)
 ·refine .guard (by show (1:Int)≤((Zv.ZlA r1.1).length:Int);omega) (.guard (Int.le_refl _) ?_)
  refine fin _ _ (smL ?_ (fun w hw=>sw w ?_)) h3
  ·show (List.take _ (List.drop _ (Zv.ZlA r1.1))).length≤_
   rw [List.length_take,List.length_drop];omega
  ·exact List.mem_of_mem_drop (List.mem_of_mem_take hw)
 refine Gets.ite (fun _=>?_) (fun _=>?_)
 ·refine .at a0 a1 fun w hw _=>?_
  obtain ⟨⟨w1,w2⟩,w3,w4,w5⟩:=bwi w hw
  have w5:(w.snd.snd.snd.fst).length≤100:=w5
  rw [ZgS _ (by omega),Bq]
  refine .guard (by simp only [List.length_cons,List.length_nil];omega) (fin _ _ (set_ _ ?_) h3)
  refine ZuG (by show (QH.Parent w).length≤_;omega) (by show (QH.Res w).length≤_;omega) (by show (QH.Cap w).length≤_;omega) ?_
  rw [List.length_append]
  simp only [List.length_cons,List.length_nil]
  omega
 refine Gets.ite (fun _=>?_) (fun _=>?_)
 ·refine .at a0 a1 fun w hw _=>?_
  obtain ⟨⟨w1,w2⟩,w3,w4,w5⟩:=bwi w hw
  refine .at (by omega) (by show (0:Int)<((QH.Res w).length:Int);omega) fun _ _ _=>fin _ _ (set_ _ ?_) h3
  refine ZuG (by show (QH.Parent w).length≤_;omega) (by show (List.set (QH.Res w) _ _).length≤_;rw [List.length_set];omega) (by show (QH.Cap w).length≤_;omega) (by show (QH.ZnH w).length≤_;omega)
 refine Gets.ite (fun _=>?_) (fun _=>?_)
 ·refine .at a0 a1 fun w hw _=>?_
  obtain ⟨⟨w1,w2⟩,w3,w4,w5⟩:=bwi w hw
  refine (Zf h3 3).bind fun r4 ⟨⟨b0,b1⟩,h4⟩=>?_
  refine .at b0 (by simp only [List.length_cons,List.length_nil];omega) fun _ _ _=>?_
  refine .at (by omega) (by show (0:Int)<((QH.Cap w).length:Int);omega) fun _ _ _=>fin _ _ (set_ _ ?_) h4
  refine ZuG (by show (QH.Parent w).length≤_;omega) (by show (QH.Res w).length≤_;omega) (by show (List.set (QH.Cap w) _ _).length≤_;rw [List.length_set];omega) (by show (QH.ZnH w).length≤_;omega)
 refine Gets.ite (fun _=>?_) (fun _=>?_)
 ·refine .at a0 a1 fun w hw _=>?_
  obtain ⟨⟨w1,w2⟩,w3,w4,w5⟩:=bwi w hw
  refine (Zf h3 5).bind fun r4 ⟨_,h4⟩=>?_
  have ew:Wq (((QH.Parent w).length:Int)-1)=((QH.Parent w).length:Int)-1:=XD (by omega) (by omega)
  refine .at (by show (0:Int)≤Wq (((QH.Parent w).length:Int)-1);omega) (by show Wq (((QH.Parent w).length:Int)-1)<((QH.Parent w).length:Int);omega) fun _ _ _=>fin _ _ (set_ _ ?_) h4
  refine ZuG (by show (List.set (QH.Parent w) _ _).length≤_;rw [List.length_set];omega) (by show (QH.Res w).length≤_;omega) (by show (QH.Cap w).length≤_;omega) (by show (QH.ZnH w).length≤_;omega)
 refine Gets.ite (fun _=>?_) (fun _=>?_)
 ·refine .at (by omega) (by show (0:Int)<((Zp.Vk (Zv.Design r1.1)).length:Int);have:=bd.p0;omega) fun p hp _=>?_
  obtain ⟨s1,s2,s3⟩:=Zrk bd.sm
  have hpd:=bd.port p hp
  unfold Zkb at hpd
  refine .ret ⟨⟨⟨Zs0 bl (Ztr s1 s3 ?_) (smL (by show (Zv.ZlA r1.1).length≤_;omega) sw),fun _ _=>ZAn hdn rfl rfl⟩,⟨bd.few.insts,by show (List.set (Zp.Vk (Zv.Design r1.1)) _ _).length≤_;rw [List.length_set];exact bd.few.ports,bd.few.nets⟩⟩,h3⟩
  refine smL (by show (List.set (Zp.Vk (Zv.Design r1.1)) _ _).length≤_;rw [List.length_set];have:=bd.p1;omega) (Ze7 s2.2 ⟨smS (by show (Zah.Name p).length≤_;omega),trivial,trivial,trivial⟩)
 ·exact fin _ _ (smL (by show (Zv.ZlA r1.1).length≤_;omega) sw) h3
theorem bytesD {code:List Int} (hb:bnd (.sl (.int .u8)) code):∀ x∈code,0≤x∧x≤255:=fun x hx=>hb.2 x hx
end Go.Proofs.YtnnbgbgapogckaaGreatDoor
