/-
  Plain laws: relations of clocks.
-/
import Derived.Test.YtjkccpcebpeadaaGreatDoorLC
import Derived.Test.YtjkccpcebpeadaaGreatDoorLB
import Derived.Test.YtjkccpcebpeadaaGreatDoorLA
namespace Go.Proofs.YtjkccpcebpeadaaGreatDoor
set_option linter.unusedVariables false
set_option linter.unusedSimpArgs false
open Go Go.Sx
def ZLC (n:Int):Bool:=within n 0 1
variable (n:Int)
theorem ZK9:ZLC n=true<->n=0\/n=1:=by unfold ZLC;rw[QD];omega
theorem ZJU:ZIP n=some (ZLC n):=by
 unfold ZIP;split
 ·rename_i h;rw[(ZK9 n).2 (.inl h)]
 ·rename_i h
  congr 1;rw[Ko,ZK9,Ul];omega
noncomputable def ZI4 (l:List Zf) (a ea b eb:Int):Int :=
 if tr (ZfS l)=true then
  if(within a 0 ((l.length:Int)-1)&&within b 0 ((l.length:Int)-1))=true then
   if(ZLC ea&&ZLC eb)=true then
    if root l a=root l b then
     if 100000000<hyp (ZgC l a).period (ZgC l b).period then 3
     else if 200<Wq ((hyp (ZgC l a).period (ZgC l b).period).tdiv (ZgC l a).period)then 3 else 0
    else 5
   else 2
  else 4
 else 1
structure ZKS (l:List Zf) (a ea b eb:Int):Prop where
 ok:ZfS l
 a0:0<=a
 a1:a<l.length
 b0:0<=b
 b1:b<l.length
 ea:ea=0\/ea=1
 eb:eb=0\/eb=1
 h:hyp (ZgC l a).period (ZgC l b).period<=100000000
variable {l:List Zf} {a ea b eb:Int}
theorem ZLv (h:ZI4 l a ea b eb=0):ZKS l a ea b eb:=by
 unfold ZI4 at h;split at h<;>try (cases h;done)
 rename_i d;split at h<;>try (cases h;done)
 rename_i f;split at h<;>try (cases h;done)
 rename_i g;split at h<;>try (cases h;done)
 split at h<;>try (cases h;done)
 rename_i j;simp only[Up,QD]at f;simp only[Up,ZK9]at g;exact⟨(Xf _).1 d,f.1.1,by omega,f.2.1,by omega,g.1,g.2,by omega⟩
theorem ZJR (l:List Zf) (a ea b eb:Int) (W:ZwZ l) (q:l.length<=4611686018427387904):ZJm l a ea b eb=some (ZI4 l a ea b eb):=by
 unfold ZJm ZI4;rw[ZfI l W q,Bq];split<;>try rfl
 rename_i c;have c:=(Xf _).1 c;rw[QP];simp only[JZ,Bq];cases m:within a 0 ((l.length:Int)-1)
 ·simp
 cases h:within b 0 ((l.length:Int)-1)
 ·simp
 simp only[Uk,KE];have e1:within ea 0 1=ZLC ea:=rfl;have f:within eb 0 1=ZLC eb:=rfl;rw[e1,f];cases ZLC ea
 ·simp
 cases ZLC eb
 ·simp
 rw[QD]at m h;have pa:=Zuc c m.1;have pb:=Zuc c h.1;have g:=(ZGp c m.1).p1;simp only[Uk,KE,ZJQ pa,ZJQ pb,Bq];split<;>try rfl
 rw[ZJI (ZKW c m.1 (by omega) h.1),Bq];split<;>try rfl
 rw[Zh9 pa,Bq];simp only[wvS,YX.period];rw[QQ];by_cases H:200<Wq ((hyp (ZgC l a).period (ZgC l b).period).tdiv (ZgC l a).period)<;>simp[H]
def ZKE:Zjt:=((0,(0,0,()),()),(0,(0,0,()),()),0,0,0,())
def ZJw (l:List Zf) (a ea b eb:Int):Zjt:=(wvI (ZgC l a),wvI (ZgC l b),ea,eb,hyp (ZgC l a).period (ZgC l b).period,())
theorem ZKV (l:List Zf) (a ea b eb:Int):ZJt l a ea b eb=some (if ZI4 l a ea b eb=0 then ZJw l a ea b eb else ZKE,ZI4 l a ea b eb):=by
 unfold ZJt ZI4;rw[ZKB _ _ (by simp),Bq];unfold codeOf;cases c:tr (ZfS l)
 ·simp[ZKE]
 have c:=(Xf _).1 c;have n:allIn [a,b] 0 ((l.length:Int)-1)=(within a 0 ((l.length:Int)-1)&&within b 0 ((l.length:Int)-1)):=by simp[allIn]
 rw[n];cases j:(within a 0 ((l.length:Int)-1)&&within b 0 ((l.length:Int)-1))
 ·simp[ZKE]
 simp only[Uk,ZJU,Bq];cases ZLC ea
 ·simp[ZKE]
 cases ZLC eb
 ·simp[ZKE]
 simp only[Up,QD]at j;have pa:=Zuc c j.1.1;have pb:=Zuc c j.2.1;have g:=(ZGp c j.1.1).p1;simp only[Uk,KE,ZJY pa,ZJY pb,Bq];by_cases E:root l a=root l b
 ·simp only[E,Uk,Zhe pa,Zhe pb,Bq,ZJ3 (ZKW c j.1.1 (by omega) j.2.1)]
  by_cases hh:100000000<hyp (ZgC l a).period (ZgC l b).period
  ·simp[hh,ZKE]
  ·simp only[hh,Uj,wvI,ZcF.period]
   rw[QQ];by_cases f:200<Wq ((hyp (ZgC l a).period (ZgC l b).period).tdiv (ZgC l a).period)
   ·simp[f,ZKE]
   ·simp[f,ZJw,wvI]
 ·simp[E,ZKE]
def ZIQ (w:Wv) (e:Int):Int:=if e=0 then w.rise else w.fall
def ZKC (w:Wv) (e t:Int):Int:=t+(ZIQ w e-t)%w.period
variable {w:Wv}
theorem ZJz (h:ZFZ w) (e:Int):0<=ZIQ w e/\ZIQ w e<w.period:=by
 unfold ZIQ;split
 ·exact⟨h.r1,h.r2⟩
 ·exact⟨h.f1,h.f2⟩
theorem ZLD (a b:Int) (d:-1000000000000<=a:=by omega) (f:a<=1000000000000:=by omega) (g:1<=b:=by omega) (i:b<=1000000000000:=by omega):(Wq (a.tmod b+b)).tmod b=a%b:=by
 have e1:a.tmod b=a-b*(a.tdiv b):=by rw[Int.tmod_def]
 have h:-b<a.tmod b/\a.tmod b<b:=⟨by have:=Int.lt_tmod_of_pos a (by omega:0<b);omega,KC a (by omega)⟩;rw[QP,Int.tmod_eq_emod_of_nonneg (by omega)];rw[e1,Int.add_emod_right,Int.sub_mul_emod_self_left]
variable {t:Int}
theorem ZLp (c:ZFZ w) (e:Int) (d:-10000000000<=t) (f:t<=10000000000) :
  Wq (t+(Wq ((Wq (ZIQ w e-t)).tmod w.period+w.period)).tmod w.period)=ZKC w e t:=by
 have b:=ZJz c e;have p1:=c.p1;have p2:=c.p2;rw[QP (n:=ZIQ w e-t),ZLD _ _];have:=Int.emod_nonneg (ZIQ w e-t) (show w.period≠0 by omega);have:=Int.emod_lt_of_pos (ZIQ w e-t) (show 0<w.period by omega);exact QP
theorem ZLi (c:ZFZ w) {e:Int} (l:e=0\/e=1) (d:-10000000000<=t:=by omega) (f:t<=10000000000:=by omega):ZJi (wvI w) e t=some (ZKC w e t):=by
 have p1:=c.p1;have:=ZLp c e d f;unfold ZJi ZJC;rcases l with rfl|rfl
 ·simp only[wvI,G6,ZcF.period,ZIQ,Uk]at this ⊢
  rw[QQ,QQ,QQ,Bq,this]
 ·have e1:¬(1:Int)=0:=by omega
  simp only[wvI,G6,ZcF.period,ZIQ,e1,Uk,Uj]at this ⊢;rw[QQ,QQ,QQ,Bq,this]
theorem ZKa (c:ZFZ w) {e:Int} (d:-10000000000<=t:=by omega) (f:t<=10000000000:=by omega):ZJd (wvS w) e t=some (ZKC w e t):=by
 have p1:=c.p1;have:=ZLp c e d f;have e1:ZJu (wvS w) e=some (ZIQ w e):=by
  unfold ZJu ZIQ;split<;>rfl
 unfold ZJd;rw[e1,Bq];simp only[wvS,YX.period]at this ⊢;rw[QQ,this]
def ZJZ (s p:Int) (w:Wv) (e:Int) (n:Nat):List (List Int):=(List.range n).map λ(i:Nat)=>[s+(i:Int)*p,ZKC w e (s+(i:Int)*p+1)]
theorem ZLm (s p:Int) (w:Wv) (e:Int) (n:Nat):ZJZ s p w e (n+1)=ZJZ s p w e n++[[s+n*p,ZKC w e (s+n*p+1)]]:=by
 simp[ZJZ,List.range_succ]
theorem ZJD (s p:Int) (w:Wv) (e:Int) (n:Nat):(ZJZ s p w e n).length=n:=by simp[ZJZ]
def count (s p h:Int):Nat:=((h-s+p-1)/p).toNat
variable {p:Int}
theorem ZKQ {s h:Int} (g:0<p) {i:Nat} (l:i<count s p h):s+i*p<h:=by
 unfold count at l;have d:((i:Int)+1)<=(h-s+p-1)/p:=by omega
 have f:=(Int.le_ediv_iff_mul_le g).1 d;rw[Int.add_mul]at f;omega
theorem ZLn {s h:Int} (g:0<p):h<=s+(count s p h:Int)*p:=by
 unfold count;have d:=Int.lt_ediv_add_one_mul_self (h-s+p-1) g;have f:(h-s+p-1)/p<=(((h-s+p-1)/p).toNat:Int):=Int.self_le_toNat _;have H:=Kq f (show 0<=p by omega);rw[Int.add_mul]at d;omega
structure ZLX (wa wb:Wv) (s h:Int):Prop where
 wa:ZFZ wa
 wb:ZFZ wb
 s0:0<=s
 s1:s<=100000
 hh:h<=100000000
variable {wb:Wv}
theorem ZK3 {wa:Wv} {s h:Int} (p:ZLX wa wb s h) {step:List (List Int)×Int×Unit->Option ((List (List Int)×Int×Unit)⊕List (List Int))}
  (H:∀ (out:List (List Int)) (at0:Int),0<=at0->at0<=10000000*100->step (out,at0,()) =
   if at0<h then Zw ((out.length+List.length [[at0,ZKC wb eb (at0+1)]])*24<=140737488355328) (some (.inl (out++[[at0,ZKC wb eb (at0+1)]],Wq (at0+wa.period),()))) else some (.inr out)) :
  Zt step ([],s,())=some (ZJZ s wa.period wb eb (count s wa.period h)):=by
 have p1:=p.wa.p1;have p2:=p.wa.p2;have s0:=p.s0;have s1:=p.s1;have hh:=p.hh;have D:count s wa.period h<=200000000:=by
  unfold count;by_cases g:0<=h-s+wa.period-1
  ·have:=Int.ediv_le_self (b:=wa.period) g
   omega
  ·have:(h-s+wa.period-1)/wa.period<=0:=by
    have:=Int.ediv_neg_of_neg_of_pos (show h-s+wa.period-1<0 by omega) (show 0<wa.period by omega);omega
   omega
 refine YC (count s wa.period h) (λk v=>v=(ZJZ s wa.period wb eb k,s+(k:Int)*wa.period,())) _ (by simp[ZJZ]) ?_ ?_
 ·rintro k _ c rfl
  have d:=ZKQ (show 0<wa.period by omega) c;have f:0<=(k:Int)*wa.period:=Hw (by omega) (by omega);rw[H _ _ (by omega) (by omega),Uc d,Zk (by rw[ZJD];simp;omega)];left;refine⟨_,rfl,?_⟩;rw[ZLm,QP];simp only[Prod.mk.injEq,and_true,true_and];rw[Int.natCast_add,Int.add_mul];omega
 ·rintro _ rfl
  have d:=ZLn (s:=s) (h:=h) (show 0<wa.period by omega);have f:0<=(count s wa.period h:Int)*wa.period:=Hw (by omega) (by omega);by_cases S:count s wa.period h=0
  ·rw[H _ _ (by omega) (by rw[S];simp;omega),Qu]
  ·have a:=ZKQ (s:=s) (h:=h) (show 0<wa.period by omega) (show count s wa.period h-1<count s wa.period h by omega)
   have i:((count s wa.period h-1:Nat):Int)=(count s wa.period h:Int)-1:=by omega
   rw[i,Int.sub_mul]at a;rw[H _ _ (by omega) (by omega),Qu]
theorem ZL7 {x y:Int} (Z:2<=x) (f:x<=100000) (l:2<=y) (I:y<=100000):x<=hyp x y:=by
 unfold hyp;have S:0<Int.gcd x y:=Int.gcd_pos_of_ne_zero_left y (by omega);have j:(Int.gcd x y:Int)∣x:=Int.gcd_dvd_left ..;have a:(Int.gcd x y:Int)∣y:=Int.gcd_dvd_right ..;generalize Int.gcd x y=g at *;obtain⟨p,H⟩:=j;obtain⟨q,k⟩:=a;have G:0<(g:Int):=by omega
 have b:0<p:=by
  rcases Int.lt_or_le 0 p with h|h
  ·exact h
  ·have:=Hw (show 0<=(g:Int) by omega) (show 0<=-p by omega);rw[Int.mul_neg]at this;omega
 have e:0<q:=by
  rcases Int.lt_or_le 0 q with h|h
  ·exact h
  ·have:=Hw (show 0<=(g:Int) by omega) (show 0<=-q by omega);rw[Int.mul_neg]at this;omega
 have e1:x.tdiv g=p:=by rw[H,Int.mul_tdiv_cancel_left _ (by omega)]
 have c:p<=x:=by
  have:=Kq (show(1:Int)<=g by omega) (show 0<=p by omega);rw[Int.one_mul]at this;omega
 have i:0<=p*y/\p*y<=100000*100000:=⟨Hw (by omega) (by omega),Int.mul_le_mul (by omega) I (by omega) (by omega)⟩;rw[e1,QP (n:=p),QP];have d:=KF (show (g:Int)<=y by
  have:=KF (show (1:Int)<=q by omega) (show 0<=(g:Int) by omega);rw[Int.mul_one] at this;omega) (show 0<=p by omega)
 rw[Int.mul_comm p g]at d;omega
noncomputable def ZIA (l:List Zf) (a ea b eb:Int):List (List Int) :=
 ZJZ (ZIQ (ZgC l a) ea) (ZgC l a).period (ZgC l b) eb (count (ZIQ (ZgC l a) ea) (ZgC l a).period (hyp (ZgC l a).period (ZgC l b).period))
theorem ZLb (h:ZKS l a ea b eb):ZLX (ZgC l a) (ZgC l b) (ZIQ (ZgC l a) ea) (hyp (ZgC l a).period (ZgC l b).period):=by
 have wa:=ZGp h.ok h.a0 h.a1;have e:=ZJz wa ea;have:=wa.p2;exact⟨wa,ZGp h.ok h.b0 h.b1,by omega,by omega,h.h⟩
theorem ZJ8 (h:ZKS l a ea b eb):ZIX (ZJw l a ea b eb)=some (ZIA l a ea b eb):=by
 have P:=ZLb h;have wb:=P.wb;have p:=ZK3 (eb:=eb) P (step:=λv=>ZIF (ZJw l a ea b eb) v.1 v.2.1) (λout at0 k d=>by
  simp only[ZIF,ZJw,HJ,HF,Zjt.eb,HC];rw[QP (n:=at0+1),ZLi wb h.eb,Bq];rfl)
 unfold ZIX ZIA;rcases h.ea with rfl|rfl
 ·simp only[ZJw,Zjt.ea,HC,G6,wvI,ZIQ,Uk]at p ⊢
  rw[QQ,QQ];exact p
 ·have e1:¬(1:Int)=0:=by omega
  simp only[ZJw,Zjt.ea,HC,G6,wvI,ZIQ,e1,Uk,Uj]at p ⊢;rw[QQ,QQ];exact p
theorem ZKb (h:ZKS l a ea b eb):ZJf l a ea b eb=some (ZIA l a ea b eb):=by
 have P:=ZLb h;have wa:=P.wa;have wb:=P.wb;have e:=ZJz wa ea;have E:ZKC (ZgC l a) ea 0=ZIQ (ZgC l a) ea:=by
  unfold ZKC;rw[Int.sub_zero,Int.emod_eq_of_lt e.1 e.2];omega
 unfold ZJf ZIA;rw[ZJI (ZKW h.ok h.a0 h.a1 h.b0 h.b1),Bq,Zh9 (Zuc h.ok h.a0 h.a1),Bq,Zh9 (Zuc h.ok h.b0 h.b1),Bq,
  ZKa wa,Bq,E]
 refine ZK3 P (λout at0 k d=>?_);simp only[ZJr];rw[QP (n:=at0+1),ZKa wb,Bq];rfl
structure ZLz (x:List Int) (wb:Wv):Prop where
 two:∃u v,x=[u,v]/\0<=u/\u<=100000000/\1<=v-u/\v-u<=wb.period
def dif (x:List Int):Int:=(x[1]?.getD 0)-(x[0]?.getD 0)
theorem ZIR (h:ZKS l a ea b eb):∀x∈ZIA l a ea b eb,ZLz x (ZgC l b):=by
 have P:=ZLb h;intro x Z;simp only[ZIA,ZJZ,KQ,Ky]at Z;obtain⟨i,H,rfl⟩:=Z;have p1:=P.wa.p1;have p:=P.wb.p1;have s0:=P.s0;have hh:=P.hh;have d:=ZKQ (by omega) H;have f:0<=(i:Int)*(ZgC l a).period:=Hw (by omega) (by omega);refine⟨_,_,rfl,by omega,by omega,?_⟩;unfold ZKC;generalize ZIQ (ZgC l a) ea+(i:Int)*(ZgC l a).period=t at *;have:=Int.emod_nonneg (ZIQ (ZgC l b) eb-(t+1)) (show(ZgC l b).period≠0 by omega);have:=Int.emod_lt_of_pos (ZIQ (ZgC l b) eb-(t+1)) (show 0<(ZgC l b).period by omega);omega
theorem ZK2 (h:ZKS l a ea b eb):∃x r,ZIA l a ea b eb=x::r:=by
 have P:=ZLb h;have e:=ZJz P.wa ea;have p1:=P.wa.p1;have p2:=P.wa.p2;have p:=P.wb.p1;have O:=P.wb.p2;have L:=ZL7 p1 p2 p O;have q:=ZLn (s:=ZIQ (ZgC l a) ea) (h:=hyp (ZgC l a).period (ZgC l b).period) (show 0<(ZgC l a).period by omega);cases W:count (ZIQ (ZgC l a) ea) (ZgC l a).period (hyp (ZgC l a).period (ZgC l b).period)with
 |zero=>rw[W]at q;simp at q;omega
 |succ n =>
  have:(ZIA l a ea b eb).length=n+1:=by rw[ZIA,ZJD,W]
  cases g:ZIA l a ea b eb with
  |nil=>rw[g]at this;simp at this
  |cons x r=>exact⟨x,r,rfl⟩
variable {k:Nat}
theorem ZLH {α:Type} {l:List α} {x:α} (Z:l[k]?=some x):l.set k x=l:=by
 apply UI;intro j;rw[UX];split
 ·rename_i e
  subst e;rw[Uc (Ub.1 Z).1,Z]
 ·rfl
theorem ZJ6 {ρ:Type} {L:List (List Int)} (h:∀x∈L,ZLz x wb) (l:L.length<=4611686018427387904) {g:Int->Int->Int} {out:Int->ρ} {init:Int}
  {step:Int×Int×List (List Int)×Unit->Option ((Int×Int×List (List Int)×Unit)⊕ρ)}
  (H:∀ (m:Int) (k:Nat),step (m,(k:Int),L,())=if (k:Int)<(L.length:Int) then (atI L (k:Int)).bind λx=>(atI x 1).bind λv=>(atI x 0).bind λu =>
   some (.inl (g m (Wq (v-u)),Wq ((k:Int)+1),List.set L (Int.toNat (k:Int)) x,())) else some (.inr (out m)))
  (b:wb.period<=100000):Zt step (init,0,L,())=some (out ((L.map dif).foldl g init)):=by
 refine YC L.length (λk v=>v=(((L.take k).map dif).foldl g init,(k:Int),L,())) _ rfl ?_ ?_
 ·rintro k _ a rfl
  have Z:L[k]?=some L[k]:=Ua a;generalize L[k]=x at Z;obtain⟨u,v,rfl,d,f,c,i⟩:=(h x (Ud Z)).two;rw[H,Qe,Zv,Z,Bq];have e1:atI [u,v] 1=some v:=rfl;have e:atI [u,v] 0=some u:=rfl;rw[e1,Bq,e,Bq,QP (n:=v-u),QP,UG,ZLH Z];refine .inl ⟨_,rfl,?_⟩;rw[XF Z];simp[dif]
 ·rintro _ rfl
  rw[H,Qu,Ur]
theorem ZLN {x:List Int} (h:ZLz x wb) (b:wb.period<=100000):∃u v,x=[u,v]/\Wq (v-u)=dif x/\1<=dif x/\dif x<=wb.period:=by
 obtain⟨u,v,rfl,d,f,g,i⟩:=h.two;exact⟨u,v,rfl,by rw[QP];rfl,g,i⟩
noncomputable def ZKX (l:List Zf) (a ea b eb:Int):Int:=((ZIA l a ea b eb).map dif).foldl min (ZgC l b).period
noncomputable def ZK1 (l:List Zf) (a ea b eb:Int):Int:=((ZIA l a ea b eb).map dif).foldl (λm d=>max m (d-min (ZgC l b).period (ZgC l a).period)) (-(ZgC l b).period-(ZgC l a).period)
theorem ZJE (h:ZKS l a ea b eb):(ZIA l a ea b eb).length<=4611686018427387904:=by
 have P:=ZLb h;rw[ZIA,ZJD];cases W:count (ZIQ (ZgC l a) ea) (ZgC l a).period (hyp (ZgC l a).period (ZgC l b).period)with
 |zero=>omega
 |succ n =>
  have p1:=P.wa.p1;have hh:=P.hh;have s0:=P.s0;have d:=ZKQ (s:=ZIQ (ZgC l a) ea) (h:=hyp (ZgC l a).period (ZgC l b).period) (show 0<(ZgC l a).period by omega) (show n<_ by rw[W];omega);have f:=KF (show(1:Int)<=(ZgC l a).period by omega) (show 0<=(n:Int) by omega);omega
theorem ZK7 (h:ZKS l a ea b eb):ZI9 (ZJw l a ea b eb)=some (ZKX l a ea b eb):=by
 unfold ZI9;rw[ZJ8 h,Bq];exact ZJ6 (out:=λm=>m) (ZIR h) (ZJE h) (λm k=>rfl) (ZLb h).wb.p2
theorem ZLh (h:ZKS l a ea b eb):ZJb (ZJw l a ea b eb)=some (ZK1 l a ea b eb):=by
 have P:=ZLb h;have p1:=P.wa.p1;have p2:=P.wa.p2;have p:=P.wb.p1;have O:=P.wb.p2;unfold ZJb;rw[ZJ8 h,Bq];have:=ZJ6 (ρ:=Int) (out:=λm=>m) (g:=λm d=>max m (Wq (d-min (ZgC l b).period (ZgC l a).period))) (init:=Wq (Wq (0-(ZgC l b).period)-(ZgC l a).period)) (ZIR h) (ZJE h)
  (step:=λv=>ZJj (ZJw l a ea b eb) (ZIA l a ea b eb) v.1 v.2.1 v.2.2.1) (λm k=>rfl) O
 refine this.trans ?_;rw[QP (n:=0-(ZgC l b).period),QP (n:=0-(ZgC l b).period-(ZgC l a).period)];unfold ZK1;congr 1;rw[Int.zero_sub];have H:∀d∈(ZIA l a ea b eb).map dif,1<=d/\d<=100000:=by
  intro d L;obtain⟨x,Z,rfl⟩:=KQ.1 L;obtain⟨u,v,_,_,c,f⟩:=ZLN (ZIR h x Z) O;omega
 generalize (ZIA l a ea b eb).map dif=D at H;generalize -(ZgC l b).period-(ZgC l a).period=M;induction D generalizing M with
 |nil=>rfl
 |cons d D i =>
  have:=H d (by simp);simp only[Hy];rw[QP (n:=d-min (ZgC l b).period (ZgC l a).period)];exact i (λd L=>H d (by simp[L])) _
variable {i:Int} {r:List Int}
theorem ZKU {d:Int} (h:d<=i):(d::r).foldl min i=(d::r).foldl min d:=by
 simp only[Hy];rw[show min i d=d by omega,show min d d=d by omega]
theorem ZLd (W:ZwZ l) (j:l.length<=4611686018427387904) :
  ZIN l a ea b eb=some (if ZI4 l a ea b eb=0 then ZKX l a ea b eb else 0,ZI4 l a ea b eb):=by
 unfold ZIN;rw[ZJR l a ea b eb W j,Bq];split
 ·rename_i q
  have h:=ZLv q;have P:=ZLb h;obtain⟨x,r,Z⟩:=ZK2 h;have d:=ZIR h x (by rw[Z];simp);obtain⟨u,v,H,f,i,c⟩:=ZLN d P.wb.p2;rw[ZKb h,Bq,q];have e:atI (ZIA l a ea b eb) 0=some x:=by rw[Z];rfl
  have e1:atI x 1=some v:=by rw[H];rfl
  have n:atI x 0=some u:=by rw[H];rfl
  have z:List.set (ZIA l a ea b eb) (Int.toNat 0) x=ZIA l a ea b eb:=ZLH (by rw[Z];rfl);rw[e,Bq,e1,Bq,n,Bq,f,z];rw[ZJ6 (g:=min) (out:=λm=>(m,(0:Int))) (ZIR h) (ZJE h) (λm k=>rfl) P.wb.p2];unfold ZKX;rw[Z,Kv,ZKU c]
 ·rfl
theorem ZKT {d c:Int} (h:i<=d-c:=by omega):(d::r).foldl (λm d=>max m (d-c)) i=(d::r).foldl (λm d=>max m (d-c)) (d-c):=by
 simp only[Hy];rw[show max i (d-c)=d-c by omega,show max (d-c) (d-c)=d-c by omega]
theorem ZLj (W:ZwZ l) (s:l.length<=4611686018427387904) :
  ZIU l a ea b eb=some (if ZI4 l a ea b eb=0 then ZK1 l a ea b eb else 0,ZI4 l a ea b eb):=by
 unfold ZIU;rw[ZJR l a ea b eb W s,Bq];split
 ·rename_i q
  have h:=ZLv q;have P:=ZLb h;have p1:=P.wa.p1;have p2:=P.wa.p2;have y:=P.wb.p1;have O:=P.wb.p2;obtain⟨x,r,Z⟩:=ZK2 h;have f:=ZIR h x (by rw[Z];simp);obtain⟨u,v,H,j,o,p⟩:=ZLN f P.wb.p2;rw[ZKb h,Bq,Zh9 (Zuc h.ok h.a0 h.a1),Bq,Zh9 (Zuc h.ok h.b0 h.b1),Bq,q];have e:atI (ZIA l a ea b eb) 0=some x:=by rw[Z];rfl
  have e1:atI x 1=some v:=by rw[H];rfl
  have E:atI x 0=some u:=by rw[H];rfl
  have z:List.set (ZIA l a ea b eb) (Int.toNat 0) x=ZIA l a ea b eb:=ZLH (by rw[Z];rfl);rw[e,Bq,e1,Bq,E,Bq,j,z];simp only[wvS,YX.period];have:=ZJ6 (g:=λm d=>max m (Wq (d-min (ZgC l a).period (ZgC l b).period))) (out:=λm=>(m,(0:Int))) (init:=Wq (dif x-min (ZgC l a).period (ZgC l b).period)) (ZIR h) (ZJE h)
   (step:=λv=>ZI7 (wvS (ZgC l a)) (wvS (ZgC l b)) v.1 v.2.1 v.2.2.1) (λm k=>rfl) O
  refine this.trans ?_;have c:∀d∈(ZIA l a ea b eb).map dif,1<=d/\d<=100000:=by
   intro d L;obtain⟨x,Z,rfl⟩:=KQ.1 L;obtain⟨u,v,_,_,t,w⟩:=ZLN (ZIR h x Z) O;omega
  have step:∀(D:List Int),(∀d∈D,1<=d/\d<=100000)->∀M,D.foldl (λm d=>max m (Wq (d-min (ZgC l a).period (ZgC l b).period))) M=D.foldl (λm d=>max m (d-min (ZgC l b).period (ZgC l a).period)) M:=by
   intro D;induction D with
   |nil=>intro _ _;rfl
   |cons d D I =>
    intro c M;have:=c d (by simp);simp only[Hy];rw[QP (n:=d-min (ZgC l a).period (ZgC l b).period),I (λd L=>c d (by simp[L]))];congr 2;omega
  rw[step _ c,QP];unfold ZK1;rw[Z,Kv,ZKT (i:=-(ZgC l b).period-(ZgC l a).period),show min (ZgC l a).period (ZgC l b).period=min (ZgC l b).period (ZgC l a).period by omega]
 ·rfl
def ZLE (l:List Zf) (a b s o:Int):Zhl:=(s,o,max (Ht (l[a.toNat]?.getD default)) (Ht (l[b.toNat]?.getD default)),())
def ZKZ:Zhl:=(0,0,0,())
noncomputable def ZIB (l:List Zf) (a b:Int):Zhl×Int :=
 (if ZI4 l a 0 b 0=0 then ZLE l a b (ZKX l a 0 b 0) (ZK1 l a 0 b 0)else ZKZ,ZI4 l a 0 b 0)
variable (s:Zo)
theorem ZJ7 (a b:Int):ZIO s a b=some (ZIB (Gb s) a b):=by
 unfold ZIO ZIB;rw[ZKV,Bq];generalize Gb s=l;simp only;split
 ·rename_i q
  have h:=ZLv q;obtain⟨x,Z,H⟩:=Zjv h.a0 h.a1;obtain⟨y,e,c⟩:=Zjv h.b0 h.b1;rw[Z,Bq,e,Bq,ZK7 h,Bq,ZLh h,Bq,q];simp[ZLE,H,c]
 ·rfl
theorem ZJO (h:ZKS l a 0 b 0) (W:ZwZ l) (q:l.length<=4611686018427387904) :
  ZIY l a b=some (max (Ht (l[a.toNat]?.getD default)) (Ht (l[b.toNat]?.getD default)),0):=by
 have d:∀k:Int,0<=k->k<l.length->codeOf l [k]=0:=by
  intro k f g;unfold codeOf;rw[Uc (ZR h.ok),Uc];simp only[allIn,List.all_cons,List.all_nil,Bool.and_true,QD];omega
 obtain⟨x,Z,H⟩:=Zjv h.a0 h.a1;obtain⟨y,e,c⟩:=Zjv h.b0 h.b1;unfold ZIY;rw[ZJP l a W q,Bq,d a h.a0 h.a1,Uc rfl,ZJP l b W q,Bq,d b h.b0 h.b1,Uc rfl,Z,Bq,e,Bq];simp[H,c]
theorem ZJ9 (a b:Int) (W:ZwZ (Gb s)) (q:(Gb s).length<=4611686018427387904:=by omega):ZJc s a b=some (ZIB (Gb s) a b):=by
 unfold ZJc ZIB;generalize Gb s=l at *;rw[ZLd W q,Bq];simp only;split
 ·rename_i c
  have h:=ZLv c;rw[ZLj W q,Bq,ZJO h W q,Bq,c];rfl
 ·rfl
theorem ZLP (d:2<=p) (f:p<=100000):hyp p p=p:=by
 unfold hyp;have a:(Int.gcd p p:Int)=p:=by rw[Int.gcd_self];omega
 rw[a,Int.tdiv_self (by omega),QP (n:=1),Int.one_mul,QP]
theorem ZLu (h:ZKS l a 0 b 0):(ZIA l b 0 b 0).map dif=[(ZgC l b).period]:=by
 have wb:=ZGp h.ok h.b0 h.b1;have p1:=wb.p1;have p2:=wb.p2;have e:=ZJz wb 0;unfold ZIA;rw[ZLP p1 p2];generalize H:ZIQ (ZgC l b) 0=s at e ⊢;have q:count s (ZgC l b).period (ZgC l b).period=1:=by
  unfold count;have:((ZgC l b).period-s+(ZgC l b).period-1)/(ZgC l b).period=1:=by
   rw[Int.ediv_eq_iff_of_pos (by omega)];omega
  rw[this];rfl
 rw[q];show[dif [s+((0:Nat):Int)*(ZgC l b).period,ZKC (ZgC l b) 0 (s+((0:Nat):Int)*(ZgC l b).period+1)]]=_;rw[Int.natCast_zero,Int.zero_mul,K2];show[ZKC (ZgC l b) 0 (s+1)-s]=_;have Q:(s-(s+1))%(ZgC l b).period=(ZgC l b).period-1:=by
  rw[show s-(s+1)=(ZgC l b).period-1+(ZgC l b).period*(-1) by omega,Int.add_mul_emod_self_left,Int.emod_eq_of_lt (by omega) (by omega)]
 unfold ZKC;rw[H,Q];congr 1;omega
theorem ZLR (q:ZI4 l a 0 a 0=0):ZIB l a a=(ZLE l a a (ZgC l a).period 0,0):=by
 have h:=ZLv q;unfold ZIB;rw[q,Uc rfl];have wb:=ZGp h.ok h.b0 h.b1;have p1:=wb.p1;unfold ZKX ZK1;rw[ZLu h];simp only[Hy,List.foldl_nil];rw[show min (ZgC l a).period (ZgC l a).period=(ZgC l a).period by omega,show max (-(ZgC l a).period-(ZgC l a).period) ((ZgC l a).period-(ZgC l a).period)=0 by omega]
def ZLY (r:Row):Prop:=ZaH r.2.1/\ZcT r.2.2/\(r.1=false->r.2.1=ZbM/\r.2.2=ZbM)
def ZNs:Row:=(false,ZbM,ZbM)
theorem ZLS:ZaH ZbM:=by
 refine⟨⟨?_,?_⟩,⟨?_,?_⟩,?_⟩<;>decide
theorem ZL3:ZLY ZNs:=⟨ZLS,ZLc,λ_=>⟨rfl,rfl⟩⟩
variable {s:Zz}
theorem ZLk:Zero s<->s=ZbM:=⟨λh=>ZLT h.1 h.2,λh=>by rw[h];exact⟨rfl,rfl⟩⟩
variable {t:Zr}
theorem ZL8 {x:Bool} {a:Zz} (Z:(Gd t)[k]?=some x) (m:(GL t)[k]?=some a) (q:(GF t)[k]?=some s):Zfq t (k:Int)=(x,a,s):=by
 unfold Zfq;rw[Zv,Zv,Zv,Z,m,q];rfl
theorem ZLx {n:Nat} (h:Zji n t) (E:∀k:Nat,k<n->ZLY (Zfq t (k:Int))):ZLM (n:Int) t:=by
 have d:=h.lr;have f:=h.la;have g:=h.ls;refine⟨by omega,by omega,by omega,λk x Z=>?_⟩;have H:=(Ub.1 Z).1;have m:(GL t)[k]?=some ((GL t)[k]'(by omega)):=Ua _;have s:(GF t)[k]?=some ((GF t)[k]'(by omega)):=Ua _;have:=E k (by omega);rw[ZL8 Z m s]at this;exact⟨_,_,m,s,this.1,this.2.1,λq=>⟨ZLk.2 (this.2.2 q).1,ZLk.2 (this.2.2 q).2⟩⟩
variable {b:Zc} {c:ZA}
theorem ZLs {live:List Bool} {l:List Zj} {u:Int} (h:StO (ZgY b c live l t u)) (a:Zus (ZrS (newV b c live l t u))):ZLY (ZrS (newV b c live l t u)):=by
 unfold newV at a ⊢;cases e:ZgY b c live l t u with
 |none=>exact ZL3
 |some q =>
  rw[e]at a;exact⟨a rfl,h q e,λz=>by cases z⟩
theorem Is.ZMR {B:List Int} {l:List Zj} (h:Is b c B l t):ZLM (QU b:Int) t:=by
 obtain⟨v,_,i⟩:=ZxM h.asked.blk;have g:∀x∈l,ZcT (GZ x):=λx Z=>by
  obtain⟨k,d⟩:=UA.1 Z;exact(h.asked.src k x d).2.2.2
 have H:=ZwY h.asked.ord;have key:∀(r out:List Int),Zmy (XG b B) (Zm b) out r->(∀u∈r,0<=u/\u<(QU b:Int))->(∀u∈out,ZcT (Zfq t u).2.2)->∀u∈out++r,ZcT (Zfq t u).2.2:=by
  intro r;induction r with
  |nil=>grind
  |cons v' r I =>
   intro out m W o;have:=I (out++[v']) m.2 (λu f=>W u (UP _ f)) (λu f=>by
    rcases Uu.1 f with q|q
    ·exact o u q
    ·rw[Ut.1 q,h.right v' (W v' UK).1 (W v' UK).2]
     exact newV_slw h.asked i g m.1.2.2 o)
   grind
 have n:=key (ZaC b B).1 [] H.ord H.inn (λu f=>by cases f);have a:∀s∈GF t,ZcT s:=λs J=>by
  obtain⟨k,d⟩:=UA.1 J;have j:=(Ub.1 d).1;have:=n (k:Int) (by rw[Uq];exact H.all _ (by omega) (by have:=h.tb.ls;omega));unfold Zfq at this;rw[show atI (GF t) (k:Int)=some s by rw[Zv];exact d]at this;exact this
 refine ZLx h.tb λk d=>?_;have e:=h.right (k:Int) (by omega) (by omega);rw[e];exact ZLs (ZLt h.asked.blk i h.asked.cor a g _ _) (by rw[<-e];exact h.good _ (by omega) (by omega))
where
 newV_slw {b:Zc} {c:ZA} {br:List Int} {l:List Zj} {t:Zr} {v:ZG} (hA:Znh b c br l) (hv:VOk b v) (hsl:∀x∈l,ZcT (GZ x)) {out:List Int} {u:Int} (hr:Rdy (XG b br) (Zm b) out u) (ho:∀w∈out,ZcT (Zfq t w).2.2):ZcT (ZrS (newV b c (XG b br) l t u)).2.2:=by
  have hst:StO (ZgY b c (XG b br) l t u):=by
   unfold ZgY;refine ZlJ (I:=StO) _ _ _ ?_ λk x st hx hst=>?_
   ·unfold Zia
    refine ZlJ (I:=StO) _ _ _ (λq hq=>by cases hq) λk x st hx hst=>?_;split
    ·intro q hq
     grind
    ·exact hst
   ·rw[Uw]
    split
    ·rename_i hlv
     split
     ·rename_i ht
      have hf:=ho _ (hr k x hx hlv ht);have hsp:=ZLL hA.blk hv hA.cor (Ud hx) hf;unfold ZpI;split
      ·intro q hq
       cases st with
       |none =>
        have hq:some (_,(spn b c x ((atI (GF t) (Gc x)).getD ZbM)).2)=some q:=hq;injection hq with hq
        rw[<-hq];exact hsp
       |some r =>
        have hq:some (_,hul r.2 (spn b c x ((atI (GF t) (Gc x)).getD ZbM)).2)=some q:=hq;injection hq with hq
        rw[<-hq];exact ZK5 (hst r rfl) hsp
      ·exact hst
     ·exact hst
    ·exact hst
  unfold newV;cases e:ZgY b c (XG b br) l t u with
  |none=>exact ZLc
  |some q=>exact hst q e
variable {s:Zd}
theorem Zq8 (q:Src s) (st:Int):YM (Zbg s st) (λr=>(1<=r.1.length/\r.1.length<=3)/\Src r.2):=by
 unfold Zbg;refine(ZE q st).bind λR ⟨_,k⟩=>?_;refine(ZE k 3).bind λr1 ⟨⟨a,b⟩,d⟩=>?_;have e:Wq (1+r1.1)=1+r1.1:=QP;rw[e];refine YM.loop (λv=>0<=v.2.2.1/\(v.1.length:Int)+v.2.2.1=1+r1.1/\Src (v.2.2.2.1,v.2.2.2.2.1,v.2.2.2.2.2.1,())) (λv=>v.2.2.1.toNat) ⟨by dsimp only;omega,by grind,d⟩ ?_;rintro⟨out,t,n,c0,c1,c2,⟨⟩⟩ ⟨i1,o,I⟩;dsimp only at i1 o I;show YM (Zbu st out t n c0 c1 c2) _;unfold Zbu;have c:Wq (n-1)=n-1:=QP;rw[c];split
 ·refine .guard (by grind) ?_
  refine(ZE I st).bind λr ⟨_,f⟩=>?_;refine .ret ⟨⟨by dsimp only;omega,by grind,f⟩,by dsimp only;omega⟩
 ·exact .ret ⟨⟨by dsimp only;omega,by dsimp only;omega⟩,I⟩
theorem ZAz {a b:Nat} (m:1<=a/\a<=3) (h:1<=b/\b<=3):(b:Int)<=(a:Int)*(b:Int)/\(a:Int)*(b:Int)<=9:=by
 have:a=1\/a=2\/a=3:=by omega
 grind
theorem ZpH (H:Src s) (base:Int):YM (Zft s base) (λr=>sm Zbi r.1/\Src r.2):=by
 unfold Zft;refine(Zq8 H 60).bind λd ⟨m,k⟩=>?_;refine(Zq8 k 40).bind λr1 ⟨b,h⟩=>?_;obtain⟨p1,p2⟩:=ZAz m b;refine YM.loop (λv=>0<=v.2.1/\v.2.1<=9/\(v.1.length:Int)=v.2.1/\Src (v.2.2.1,v.2.2.2.1,v.2.2.2.2.1,())) (λv=>(9-v.2.1).toNat) ⟨by dsimp only;omega,by dsimp only;omega,by grind,h⟩ ?_;rintro⟨out,i,c0,c1,c2,⟨⟩⟩ ⟨c,i1,o,I⟩;dsimp only at c i1 o I;show YM (Zep base d r1 out i c0 c1 c2) _;unfold Zep;have e:Wq ((d.1.length:Int)*(r1.1.length:Int))=(d.1.length:Int)*(r1.1.length:Int):=QP;have e1:Wq (i+1)=i+1:=QP;have f:Wq (i-1)=i-1:=QP;have E:Wq (i-(r1.1.length:Int))=i-(r1.1.length:Int):=QP;rw[e,e1,f,E];split
 ·rename_i l
  have n:∀(x:Int) (t:Zd),Src t->YM (Zw ((List.length out+List.length [x])*(8:Nat)<=(140737488355328:Nat)) (some (.inl (out++[x],i+1,t.fst,t.snd.fst,t.snd.snd.fst,()):(List Int×Int×List Int×Int×Int×Unit)⊕(ZH×Zd))))
    (Rnd (λv:List Int×Int×List Int×Int×Int×Unit=>0<=v.2.1/\v.2.1<=9/\(v.1.length:Int)=v.2.1/\Src (v.2.2.1,v.2.2.2.1,v.2.2.2.2.1,())) (λv=>(9-v.2.1).toNat) (9-i).toNat (λr=>sm Zbi r.1/\Src r.2)):=λx t a =>
   .guard (by grind) (.ret ⟨⟨by dsimp only;omega,by dsimp only;omega,by grind,a⟩,by dsimp only;omega⟩)
  refine(ZE I 10).bind λr ⟨_,S⟩=>?_;refine .guard (by omega) ?_;split
  ·rename_i Q
   have y:i≠0:=by
    intro q
    simp_all
   refine .at (by omega) (by omega) λj _ _=>?_;refine(ZE S 20).bind λr2 ⟨_,g⟩=>?_;split
   ·refine .at (by omega) (by omega) λX _ _=>?_
    refine(ZE g 20).bind λR ⟨_,G⟩=>?_;exact n _ _ G
   ·exact n _ _ g
  ·split
   ·refine .at (by omega) (by omega) λX _ _=>?_
    refine(ZE S 20).bind λR ⟨_,G⟩=>?_;exact n _ _ G
   ·exact n _ _ S
 ·exact .ret ⟨⟨smI (by dsimp only;omega),smI (by dsimp only;omega),smI (by dsimp only;omega),trivial⟩,I⟩
theorem Zki (q:Src s) (base:Int):YM (VG s base) (λr=>sm (.sl Zbi) r.1/\Src r.2):=by
 unfold VG;refine(ZpH q base).bind λR ⟨a,k⟩=>?_;refine(ZpH k base).bind λr1 ⟨b,d⟩=>?_;refine .ret ⟨smL (by grind) (λx Z=>?_),d⟩;grind
theorem Zkp (q:Src s) (k f t e:Int):YM (Vz s k f t e) (λr=>sm Zow r.1/\Src r.2):=by
 unfold Vz;split
 ·refine(ZE q 10).bind λR ⟨_,h⟩=>?_
  refine(Zki h _).bind λr1 ⟨a,d⟩=>?_;exact .ret ⟨⟨trivial,trivial,trivial,trivial,a,smL (by simp) (by simp),trivial⟩,d⟩
 ·refine(ZE q 20).bind λR ⟨_,h⟩=>?_
  refine(Zki h _).bind λr1 ⟨a,d⟩=>?_;refine(Zki d _).bind λr2 ⟨b,H⟩=>?_;exact .ret ⟨⟨trivial,trivial,trivial,trivial,a,b,trivial⟩,H⟩
variable {c:Zq} {pin:Int}
theorem ZhA {b:Int} (u:(0:Int)<=IntKind.wrap IntKind.u64 pin) (h:Wq ((1:Int)*(2:Int)^Min.min (Int.toNat (IntKind.wrap IntKind.u64 pin)) (IntKind.bits IntKind.i64))=b) (d:(Gw c).length<=8) (b0:0<=b) (b1:b<=8)
  (H:∀i:Int,0<=i->i<((Gw c).length:Int)->Go.bits Go.BinOp.and IntKind.i64 i b=0->i+b<((Gw c).length:Int)):YM (Zet c pin) (λ_=>True):=by
 unfold Zet;refine .guard u ?_;refine YM.loop (λv=>0<=v.2.2.1/\v.2.2.1<=8) (λv=>(8-v.2.2.1).toNat) ⟨by dsimp only;omega,by dsimp only;omega⟩ ?_;rintro⟨R,o,i,⟨⟩⟩ ⟨I,i1⟩;dsimp only at I i1;show YM (Zdx c pin R o i) _;unfold Zdx;have e1:Wq (i+1)=i+1:=QP;have f:Wq (i+b)=i+b:=QP;simp only[h,e1,f];split
 ·rename_i a
  have n:∀r l:Bool,YM (some (.inl (r,l,i+1,()):(Bool×Bool×Int×Unit)⊕Int)) (Rnd (λv:Bool×Bool×Int×Unit=>0<=v.2.2.1/\v.2.2.1<=8) (λv=>(8-v.2.2.1).toNat) (8-i).toNat (λ_=>True)):=λr l =>
   .ret ⟨⟨by dsimp only;omega,by dsimp only;omega⟩,by dsimp only;omega⟩
  split
  ·rename_i S
   have t:=H i I a S;repeat' first
    |exact n _ _
    |split
    |refine YM.at (by omega) (by omega) λ_ _ _=>?_
  ·exact n _ _
 ·repeat' first
   |exact YM.ret (show Rnd _ _ _ (λ_=>True) (.inr _)from trivial)
   |split
theorem eight (k:0<=i) (d:i<8:=by omega):i=0\/i=1\/i=2\/i=3\/i=4\/i=5\/i=6\/i=7:=by omega
theorem Zu8 (h:((Gw c).length=2/\pin=0)\/((Gw c).length=4/\(pin=0\/pin=1))\/((Gw c).length=8/\(pin=0\/pin=1\/pin=2))):YM (Zet c pin) (λ_=>True):=by
 have k0:∀L:Int,(L=2\/L=4\/L=8)->∀i:Int,0<=i->i<L->Go.bits Go.BinOp.and IntKind.i64 i 1=0->i+1<L:=by
  intro L n i k d S;rcases eight k with rfl|rfl|rfl|rfl|rfl|rfl|rfl|rfl<;>first|omega|exact absurd S (by decide)
 have k1:∀L:Int,(L=4\/L=8)->∀i:Int,0<=i->i<L->Go.bits Go.BinOp.and IntKind.i64 i 2=0->i+2<L:=by
  intro L n i k d S;rcases eight k with rfl|rfl|rfl|rfl|rfl|rfl|rfl|rfl<;>first|omega|exact absurd S (by decide)
 have K:∀L:Int,L=8->∀i:Int,0<=i->i<L->Go.bits Go.BinOp.and IntKind.i64 i 4=0->i+4<L:=by
  intro L n i k d S;rcases eight k with rfl|rfl|rfl|rfl|rfl|rfl|rfl|rfl<;>first|omega|exact absurd S (by decide)
 rcases h with⟨q,rfl⟩|⟨q,rfl|rfl⟩|⟨q,rfl|rfl|rfl⟩
 ·exact ZhA (b:=1) (by decide) (by decide) (by omega) (by omega) (by omega) (k0 _ (by omega))
 ·exact ZhA (b:=1) (by decide) (by decide) (by omega) (by omega) (by omega) (k0 _ (by omega))
 ·exact ZhA (b:=2) (by decide) (by decide) (by omega) (by omega) (by omega) (k1 _ (by omega))
 ·exact ZhA (b:=1) (by decide) (by decide) (by omega) (by omega) (by omega) (k0 _ (by omega))
 ·exact ZhA (b:=2) (by decide) (by decide) (by omega) (by omega) (by omega) (k1 _ (by omega))
 ·exact ZhA (b:=4) (by decide) (by decide) (by omega) (by omega) (by omega) (K _ (by omega))
variable {m:List UInt8}
theorem ZiF (q:Src s) (W:m.length<=5) {tr:List Int} (i:tr.length=2\/tr.length=4\/tr.length=8):YM (ZaM s m tr) (λr=>sm ZgA r.1/\Src r.2):=by
 unfold ZaM;refine(ZE q 50).bind λd ⟨_,k⟩=>?_;refine(ZE k 80).bind λr1 ⟨_,h⟩=>?_;refine YM.loop (λv=>((v.1.length=0/\v.2.1=1)\/(v.1.length=1/\v.2.1=2)\/(v.1.length=2/\v.2.1=4)\/(v.1.length=3/\v.2.1=8))/\v.2.1<=(tr.length:Int)/\(∀x∈v.1,sm ZqP x)/\Src (v.2.2.1,v.2.2.2.1,v.2.2.2.2.1,())) (λv=>(8-v.2.1).toNat)
  ⟨.inl ⟨rfl,rfl⟩,by dsimp only;omega,λx Z=>(by cases Z),h⟩ ?_
 rintro⟨pins,n,c0,c1,c2,⟨⟩⟩ ⟨i1,o,I,S⟩;dsimp only at i1 o I S;show YM (Zer m tr d r1 pins n c0 c1 c2) _;unfold Zer;split
 ·rename_i t
  refine .at (by omega) (by grind) λx Z _=>?_;have c:x.length<=1:=by
   grind
  refine(ZE S 9).bind λr ⟨_,f⟩=>?_;have e1:Wq (2*n)=2*n:=QP;rw[e1];refine .guard (by grind) (.ret ⟨⟨?_,by dsimp only;omega,QE I ⟨smS (by grind),trivial,trivial,trivial,trivial⟩,f⟩,by dsimp only;omega⟩);grind
 ·refine .guard (by grind) ?_
  refine YM.loop (λv=>0<=v.2.1/\v.2.1<=3/\(v.1.length:Int)<=v.2.1/\(∀x∈v.1,sm Zow x)/\Src (v.2.2.1,v.2.2.2.1,v.2.2.2.2.1,())) (λv=>(3-v.2.1).toNat) ⟨by dsimp only;omega,by dsimp only;omega,by grind,λx Z=>(by cases Z),S⟩ ?_;rintro⟨arcs,p,D,a,b,⟨⟩⟩ ⟨j0,j,u,w,J⟩;dsimp only at j0 j u w J;show YM (Zeq m tr d r1 pins arcs p D a b) _;unfold Zeq;have e1:Wq (p+1)=p+1:=QP;rw[e1];split
  ·rename_i g
   refine (Zu8 (by
    grind)).bind λe _=>?_
   split
   ·exact .ret ⟨⟨by dsimp only;omega,by dsimp only;omega,by dsimp only;omega,w,J⟩,by dsimp only;omega⟩
   ·refine(Zkp J 1 p _ e).bind λr ⟨H,f⟩=>?_
    refine .guard (by grind) (.ret ⟨⟨by dsimp only;omega,by dsimp only;omega,?_,QE w H,f⟩,by dsimp only;omega⟩);grind
  ·refine .ret ⟨⟨smS (by grind),trivial,smL ?_ (QE I ⟨smS (by grind),trivial,trivial,trivial,trivial⟩),smL (by grind) w,smI (by grind),trivial,trivial,trivial⟩,J⟩
   grind
theorem Znz (q:Src s) (W:m.length<=5) (k e:Int):YM (JI s m k e) (λr=>sm ZgA r.1/\Src r.2):=by
 have g:∀a b:Int,sm (.sl ZqP) [([(100:UInt8)],(1:Int),a,Bool.false,()),([(99:UInt8),(107:UInt8)],(1:Int),b,Bool.true,()),([(113:UInt8)],(2:Int),(0:Int),Bool.false,())]:=λa b=>by
  refine smL (by grind) (λx Z=>?_);simp only[Us,UR,Kd]at Z;rcases Z with rfl|rfl|rfl<;>exact⟨smS (by grind),trivial,trivial,trivial,trivial⟩
 unfold JI;refine(ZE q 50).bind λR ⟨_,H⟩=>?_;refine(ZE H 80).bind λr1 ⟨_,d⟩=>?_;refine(ZE d 9).bind λr2 ⟨_,f⟩=>?_;refine(ZE f 9).bind λt ⟨_,c⟩=>?_;refine(Zkp c e 1 2 0).bind λa0 ⟨S,i⟩=>?_;refine(Zkp i 4 1 0 0).bind λa1 ⟨o,j⟩=>?_;refine(Zkp j 5 1 0 0).bind λA ⟨p,F⟩=>?_;have h:∀x∈[a0.1,a1.1,A.1],sm Zow x:=λx Z=>by
  grind
 split
 ·refine(Zkp F 1 0 2 1).bind λn ⟨G,l⟩=>?_
  refine .guard (by grind) (.ret ⟨⟨smS (by grind),trivial,g _ _,smL (by grind) (QE h G),smI (by simp),trivial,trivial,trivial⟩,l⟩)
 ·exact .ret ⟨⟨smS (by grind),trivial,g _ _,smL (by grind) h,smI (by simp),trivial,trivial,trivial⟩,F⟩
theorem Zyy (q:Src s):YM (Zg4 s) (λr=>(sm VI r.1/\(Gh r.1).length=8)/\Src r.2):=by
 unfold Zg4;refine(ZiF q (by grind) (by simp)).bind λR ⟨S,k⟩=>?_;refine(ZiF k (by grind) (by simp)).bind λr1 ⟨G,d⟩=>?_;refine(ZiF d (by grind) (by simp)).bind λr2 ⟨a,f⟩=>?_;refine(ZiF f (by grind) (by simp)).bind λm ⟨b,g⟩=>?_;refine(ZiF g (by grind) (by simp)).bind λn ⟨c,i⟩=>?_;refine(Znz i (by grind) 2 2).bind λo ⟨e,j⟩=>?_;refine(Znz j (by grind) 2 3).bind λp ⟨t,F⟩=>?_;refine(Znz F (by grind) 3 2).bind λu ⟨l,h⟩=>?_;refine .ret ⟨⟨⟨smL (by simp_all) (λx Z=>?_),trivial⟩,rfl⟩,h⟩;simp only[Us,UR,Kd]at Z;grind
def Zvu (x:Zp):Prop:=(∃r,Hb x=117::r/\r.length<=2)/\(2<=(Gu x).length/\(Gu x).length<=4)
def ZDz (s:List UInt8):Prop:=∃r,s=110::r/\r.length<=2
def ZxY (p:Y8):Prop:=(Hc p).length<=2
structure Zzk (d:Ze):Prop where
 n0:2<=(K4 d).length
 n1:(K4 d).length<=9
 inst:∀x∈K4 d,Zvu x
 nl:(Gp d).length=(K4 d).length+3
 net:∀s∈Gp d,ZDz s
 p0:4<=(Gk d).length
 p1:(Gk d).length<=5
 port:∀p∈Gk d,ZxY p
variable {most:Int}
theorem Zst (U:Src s) (P:1<=most) (Q:most<=8) (d:Bool):YM (Zg6 s most d) (λr=>Zzk r.1/\Src r.2):=by
 unfold Zg6;have z:Wq (most-1)=most-1:=QP;rw[z];refine(ZE U _).bind λR ⟨⟨a0,a1⟩,B⟩=>?_;have e:Wq (2+R.1)=2+R.1:=QP;rw[e];have K:2<=2+R.1/\2+R.1<=9:=by omega
 generalize 2+R.1=N at K;refine YM.loop (λv=>0<=v.2.2.1/\(v.1.length:Int)+v.2.2.1=N/\v.2.1.length=v.1.length+3/\(∀x∈v.1,Zvu x)/\(∀x∈v.2.1,ZDz x)/\Src (v.2.2.2.1,v.2.2.2.2.1,v.2.2.2.2.2.1,())) (λv=>v.2.2.1.toNat)
  ⟨by dsimp only;omega,by grind,rfl,λx Z=>(by cases Z),λx Z=>?_,B⟩ ?_
 ·simp only[Uq,Us,UR,Kd]at Z
  rcases Z with rfl|rfl|rfl
  ·exact⟨_,rfl,UE _⟩
  ·exact⟨_,rfl,by simp⟩
  ·exact⟨_,rfl,by simp⟩
 rintro⟨i,nets,n,c0,c1,c2,⟨⟩⟩ ⟨i1,X,Y,S,A,I⟩;dsimp only at i1 X Y S A I;show YM (Zew d i nets n c0 c1 c2) _;unfold Zew;split
 ·rename_i W
  refine(ZE I 12).bind λr ⟨⟨b0,b1⟩,H⟩=>?_;refine .at b0 (by simp only[Uf,Ug];omega) λx Z _=>?_;have q:0<=x/\x<=7:=by
   simp only[Us,UR,Kd]at Z;omega
  refine(Zna (n:=(i.length:Int))).bind λy m=>?_;refine .guard (by grind) ?_;refine YM.loop (λv=>0<=v.1/\v.1<=3/\(v.2.2.2.2.1.length:Int)=v.1/\Src (v.2.1,v.2.2.1,v.2.2.2.1,())) (λv=>(3-v.1).toNat) ⟨by dsimp only;omega,by dsimp only;omega,rfl,H⟩ ?_;rintro⟨p,D,c,g,l,⟨⟩⟩ ⟨j0,J,u,w⟩;dsimp only at j0 J u w;show YM (Zeu i nets n x y p D c g l) _;unfold Zeu;refine .at q.1 (by grind) λk M _=>?_;have O:2<=k/\k<=4:=by
   simp only[Us,UR,Kd]at M;omega
  have F:Wq (k-1)=k-1:=QP;have E:Wq (p+1)=p+1:=QP;have C:Wq (n-1)=n-1:=QP;simp only[F,E,C];split
  ·rename_i T
   refine(ZE w _).bind λr2 ⟨_,b⟩=>?_;refine(ZE b 3).bind λr3 ⟨_,G⟩=>?_;repeat' first
    |split
    |refine YM.guard (by simp only[Uh,Uf,Ug];omega) ?_
    |exact .ret ⟨⟨by dsimp only;omega,by dsimp only;omega,by grind,G⟩,by dsimp only;omega⟩
  ·refine .guard (by grind) ?_
   refine .guard (by grind) ?_;refine(Zna (n:=(nets.length:Int))).bind λnn j=>?_;refine .guard (by grind) ?_;refine .guard (by grind) ?_;refine .guard (by grind) ?_;refine .ret ⟨⟨by dsimp only;omega,by grind,by grind,QE S ⟨⟨y,rfl,m⟩,?_⟩,QE A ⟨nn,rfl,j⟩,w⟩,by dsimp only;omega⟩;grind
 ·rename_i W
  refine YM.loop (λv=>0<=v.1/\v.1<=9/\v.2.2.2.2.1.length=i.length/\(∀x∈v.2.2.2.2.1,Zvu x)/\Src (v.2.1,v.2.2.1,v.2.2.2.1,())) (λv=>(9-v.1).toNat) ⟨by dsimp only;omega,by dsimp only;omega,rfl,S,I⟩ ?_;rintro⟨p,D,c,g,l,⟨⟩⟩ ⟨j0,J,u,w,t⟩;dsimp only at j0 J u w t;show YM (Zev d nets p D c g l) _;unfold Zev;have E:Wq (p+1)=p+1:=QP;simp only[E];split
  ·rename_i o
   refine(ZE t 4).bind λr ⟨_,H⟩=>?_;split
   ·refine .at j0 o λx Z V=>?_
    have h:=w x Z;have st:∀v:Int,YM ((Zi r.2 v).bind λL=>(atI x.snd.snd.fst (0:Int)).bind λx1=>some (.inl (p+1,L.snd.fst,L.snd.snd.fst,L.snd.snd.snd.fst,List.set l (Int.toNat p) (x.fst,x.snd.fst,List.set x.snd.snd.fst (Int.toNat (0:Int)) (Wq ((1:Int)+L.fst)),()),()):(Int×(List Int)×Int×Int×(List (List UInt8×Int×List Int×Unit))×Unit)⊕(((List Zp)×(List (List UInt8))×Int×(List Int)×Int×Int×Unit)⊕(Ze×Zd))))
      (Rnd (λv:Int×(List Int)×Int×Int×(List (List UInt8×Int×List Int×Unit))×Unit=>0<=v.1/\v.1<=9/\v.2.2.2.2.1.length=i.length/\(∀ x∈v.2.2.2.2.1,Zvu x)/\Src (v.2.1,v.2.2.1,v.2.2.2.1,())) (λv=>(9-v.1).toNat) (9-p).toNat
       (Rnd (λv:(List Zp)×(List (List UInt8))×Int×(List Int)×Int×Int×Unit=>0<=v.2.2.1/\(v.1.length:Int)+v.2.2.1=N/\v.2.1.length=v.1.length+3/\(∀ x∈v.1,Zvu x)/\(∀ x∈v.2.1,ZDz x)/\Src (v.2.2.2.1,v.2.2.2.2.1,v.2.2.2.2.2.1,())) (λv=>v.2.2.1.toNat) n.toNat (λr=>Zzk r.1/\Src r.2))):=λv=>by
     refine(ZE H v).bind λr2 ⟨_,b⟩=>?_;refine .at (by omega) (by have:=h.2.1;grind) λ_ _ _=>?_;refine .ret ⟨⟨by dsimp only;omega,by dsimp only;omega,by grind,ZpR w ⟨h.1,?_⟩,b⟩,by dsimp only;omega⟩;show 2<=(List.set (Gu x) _ _).length/\(List.set (Gu x) _ _).length<=4;rw[UZ];exact h.2
    repeat' first
     |exact st _
     |split
     |exact .ret ⟨⟨by dsimp only;omega,by dsimp only;omega,by grind,ZpR w h,H⟩,by dsimp only;omega⟩
   ·exact .ret ⟨⟨by dsimp only;omega,by dsimp only;omega,u,w,H⟩,by dsimp only;omega⟩
  ·refine .guard (by grind) ?_
   refine(ZE t 2).bind λr ⟨_,H⟩=>?_;have f:∀a:Int,∀p∈(([]:List (List UInt8×Int×Int×Unit))++[([(99:UInt8),(107:UInt8)],(1:Int),(0:Int),()),([(97:UInt8)],(1:Int),(1:Int),()),([(98:UInt8)],(1:Int),(2:Int),())]++[([(121:UInt8)],(2:Int),a,())]),ZxY p:=λa p o=>by
    simp only[Uq,U0,Us,UR,Kd]at o;unfold ZxY;grind
   split
   ·refine(ZE H _).bind λr2 ⟨_,b⟩=>?_
    refine .guard (by grind) ?_;refine .ret ⟨⟨?_,?_,w,?_,A,?_,?_,QE (f _) (show 1<=2 by omega)⟩,b⟩;all_goals grind
   ·refine .ret ⟨⟨?_,?_,w,?_,A,?_,?_,f _⟩,H⟩
    all_goals grind
variable {d:Ze}
theorem Zzk.few (h:Zzk d):Few d:=⟨by have:=h.n1;omega,by have:=h.p1;omega,λx Z=>by have:=(h.inst x Z).2.2;omega⟩
theorem Zzk.sm (h:Zzk d):sm Qv d:=by
 have:=h.n1;have:=h.p1;have:=h.nl;refine⟨smL (by grind) (λx Z=>?_),smL (by grind) (λx Z=>?_),smL (by grind) (λx Z=>?_),trivial⟩
 ·obtain⟨⟨r,e,E⟩,f⟩:=h.inst x Z
  refine⟨smS ?_,trivial,smI ?_,trivial⟩;all_goals grind
 ·obtain⟨r,e,E⟩:=h.net x Z
  refine smS ?_;grind
 ·have:=h.port x Z
  unfold ZxY at this;exact⟨smS (by grind),trivial,trivial,trivial⟩
def Zvx (w:ZC):Prop:=(1<=(K5 w).length/\(K5 w).length<=4)/\(GC w).length=(K5 w).length/\(GU w).length=(K5 w).length/\(Gv w).length<=100
theorem Zvx.sm {w:ZC} (h:Zvx w):sm Zm2 w:=by
 obtain⟨d,f,g,i⟩:=h;exact⟨smI (by grind),smI (by grind),smI (by grind),smI (by grind),trivial⟩
theorem ZsH (l:List Int) (h:l.length<=1048576:=by omega):ZaL l=some l:=by
 have f:((([]:List Int).length+l.length)*8<=140737488355328):=by grind
 unfold ZaL;first
  |(rw[Zk f,Uq])
  |(rw[Zk f];rfl)
  |rfl
theorem ZxN (m:Src s) {k:Int} (x:0<=k:=by omega) (y:k<=100:=by omega):YM (Zdg s k) (λr=>Zvx r.1/\Src r.2):=by
 unfold Zdg;refine(ZE m 6).bind λd ⟨_,G⟩=>?_;have q:Zfh k d.1=some ([(-1:Int)],[(0:Int)],[d.1],List.replicate (Int.toNat k) (0:Int),()):=by
  unfold Zfh;rw[QQ,QQ,QQ,QQ]
 rw[q,Bq];refine(ZE G 4).bind λr1 ⟨⟨a,b⟩,h⟩=>?_;refine YM.loop (λv=>0<=v.1/\(v.2.2.2.2.1.length:Int)+v.1=1+r1.1/\1<=v.2.2.2.2.1.length/\v.2.2.2.2.2.1.length=v.2.2.2.2.1.length/\v.2.2.2.2.2.2.1.length=v.2.2.2.2.1.length/\v.2.2.2.2.2.2.2.1.length<=100/\Src (v.2.1,v.2.2.1,v.2.2.2.1,())) (λv=>v.1.toNat)
  ⟨a,by grind,UE _,rfl,rfl,by grind,h⟩ ?_
 rintro⟨n,c0,c1,c2,Y,Z,L,R,⟨⟩⟩ ⟨o,i1,t,I,S,A,D⟩;dsimp only at o i1 t I S A D;show YM (Zbw n c0 c1 c2 Y Z L R) _;unfold Zbw;have C:Wq (n-1)=n-1:=QP;simp only[C];split
 ·rw[ZsH Y,Bq,ZsH Z,ZsH L]
  refine(ZE D _).bind λr2 ⟨_,f⟩=>?_;refine .guard (by grind) ?_;rw[Bq];refine(ZE f _).bind λz ⟨_,H⟩=>?_;refine .guard (by grind) ?_;rw[Bq];refine(ZE H _).bind λB ⟨_,i⟩=>?_;refine .guard (by grind) ?_;refine .ret ⟨⟨by dsimp only;omega,?_,?_,?_,?_,A,i⟩,by dsimp only;omega⟩;all_goals grind
 ·refine YM.loop (λv=>0<=v.1/\v.1<=100/\v.2.2.2.2.1.length=R.length/\Src (v.2.1,v.2.2.1,v.2.2.2.1,())) (λv=>(100-v.1).toNat) ⟨by dsimp only;omega,by dsimp only;omega,rfl,D⟩ ?_
  rintro⟨p,c,e,g,l,⟨⟩⟩ ⟨j0,J,u,w⟩;dsimp only at j0 J u w;show YM (Zbv Y Z L p c e g l) _;unfold Zbv;have E:Wq (p+1)=p+1:=QP;simp only[E];split
  ·rename_i j
   refine(ZE w _).bind λr2 ⟨_,f⟩=>?_;refine .at j0 j λ_ _ _=>?_;exact .ret ⟨⟨by dsimp only;omega,by dsimp only;omega,by grind,f⟩,by dsimp only;omega⟩
  ·refine .ret ⟨⟨⟨?_,?_⟩,I,S,?_⟩,w⟩
   all_goals grind
structure ZpN (b:Zc):Prop where
 lib:sm VI (GG b)
 des:Zzk (K3 b)
 wl:(Gl b).length=(Gp (K3 b)).length
 wires:∀w∈Gl b,Zvx w
theorem ZpN.sm (h:ZpN b):sm Xi b:=by
 have:=h.wl;have:=h.des.nl;have:=h.des.n1;exact⟨h.lib,h.des.sm,smL (by grind) (λw c=>(h.wires w c).sm),trivial⟩
theorem Zpb (a:Src s) (P:1<=most) (Q:most<=8) (d:Bool):YM (Zfu s most d) (λr=>ZpN r.1/\Src r.2):=by
 unfold Zfu;refine(Zyy a).bind λR ⟨q,h⟩=>?_;refine(Zst h P Q d).bind λr1 ⟨L,H⟩=>?_;have l:=L.nl;have U:=L.n1;refine YM.loop (λv=>0<=v.2.1/\v.2.1<=((Gp r1.1).length:Int)/\(v.1.length:Int)=v.2.1/\(∀w∈v.1,Zvx w)/\Src (v.2.2.1,v.2.2.2.1,v.2.2.2.2.1,())) (λv=>(100-v.2.1).toNat)
  ⟨by dsimp only;omega,by dsimp only;omega,rfl,λw c=>(by cases c),H⟩ ?_
 rintro⟨b,n,c0,c1,c2,⟨⟩⟩ ⟨i,i1,o,I,S⟩;dsimp only at i i1 o I S;show YM (Zey R r1 b n c0 c1 c2) _;unfold Zey;have C:Wq (n+1)=n+1:=QP;simp only[C];split
 ·rename_i W
  have W:n<((Gp r1.1).length:Int):=W;rw[Zdf r1.1 n L.few,Bq];have g:(Zae r1.1 n).length<=78:=Kg (Zeg n (ZB r1.1) 0) (YT L.few);refine(ZxN S (k:=((Zae r1.1 n).length:Int))).bind λr ⟨c,f⟩=>?_;refine .guard (by grind) (.ret ⟨⟨by dsimp only;omega,by dsimp only;omega,?_,QE I c,f⟩,by dsimp only;omega⟩);grind
 ·rename_i W
  have W:¬n<((Gp r1.1).length:Int):=W;refine .ret ⟨⟨q.1,L,?_,I⟩,S⟩;grind
def ZgG (c:Zf):Prop:=(GA c).length<=4
theorem Zns (O:Src s):YM (Zfy s) (λr=>((1<=r.1.length/\r.1.length<=7)/\∀c∈r.1,ZgG c)/\Src r.2):=by
 unfold Zfy;refine(ZE O 5).bind λd ⟨⟨a0,a1⟩,K⟩=>?_;have e:Wq (1+d.1)=1+d.1:=QP;rw[e];refine YM.loop (λv=>0<=v.2.1/\(v.1.length:Int)+v.2.1=1+d.1/\(∀c∈v.1,ZgG c)/\Src (v.2.2.1,v.2.2.2.1,v.2.2.2.2.1,())) (λv=>v.2.1.toNat)
  ⟨by dsimp only;omega,by dsimp only[List.length_nil];omega,λx Z=>(by cases Z),K⟩ ?_
 rintro⟨l,n,c0,c1,c2,⟨⟩⟩ ⟨P,i1,o,I⟩;dsimp only at P i1 o I;show YM (ZeF l n c0 c1 c2) _;unfold ZeF;have G:Wq (n-1)=n-1:=QP;simp only[G];split
 ·rename_i W
  have N:∀(c:Zf) (t:Zd),ZgG c->Src t->YM (some (.inl (l++[c],n-1,t.fst,t.snd.fst,t.snd.snd.fst,()):((List Zf)×Int×(List Int)×Int×Int×Unit)⊕((List Zf)×Zd)))
    (Rnd (λv:(List Zf)×Int×(List Int)×Int×Int×Unit=>0<=v.2.1/\(v.1.length:Int)+v.2.1=1+d.1/\(∀c∈v.1,ZgG c)/\Src (v.2.2.1,v.2.2.2.1,v.2.2.2.2.1,())) (λv=>v.2.1.toNat) n.toNat (λr=>((1<=r.1.length/\r.1.length<=7)/\∀c∈r.1,ZgG c)/\Src r.2)):=λc t u z =>
   .ret ⟨⟨by dsimp only;omega,by dsimp only;simp only[Uh,Uf,Ug];omega,QE o u,z⟩,by dsimp only;omega⟩
  refine(ZE I 30).bind λr1 ⟨_,b⟩=>?_;refine(Zna (n:=(l.length:Int))).bind λm w=>?_;have L:∀x,ZgG (([(99:UInt8)]++m,x):Zf):=λx=>by
   show([(99:UInt8)]++m).length<=4;simp only[Uh,Uf,Ug];omega
  refine .guard (by simp only[Uf,Ug];omega) ?_;refine(ZE b 20).bind λr2 ⟨_,f⟩=>?_;refine(ZE f 20).bind λR ⟨_,g⟩=>?_;refine(ZE g 8).bind λT ⟨_,B⟩=>?_;have p:∀x∈([(10:Int),(12:Int),(20:Int),(30:Int),(100:Int),(7:Int),(2:Int)]),x≠0:=λx Z=>by
   simp only[Us,UR,Kd]at Z;omega
  split
  ·refine(ZE B 7).bind λQ ⟨⟨b0,b1⟩,j⟩=>?_
   refine .at b0 (by simp only[Uf,Ug];omega) λx Z _=>?_;refine(ZE j _).bind λD ⟨_,H⟩=>?_;refine(ZE H _).bind λE ⟨_,k⟩=>?_;refine .guard (p x Z) ?_;refine .guard (by simp only[Uf,Ug];omega) ?_;exact N _ _ (L _) k
  ·refine(ZE B 3).bind λQ ⟨_,j⟩=>?_
   split
   ·refine(ZE j 7).bind λD ⟨⟨b0,b1⟩,H⟩=>?_
    refine .at b0 (by simp only[Uf,Ug];omega) λx Z _=>?_;refine(ZE H _).bind λE ⟨_,k⟩=>?_;refine(ZE k _).bind λS ⟨_,q⟩=>?_;refine .guard (p x Z) ?_;refine .guard (by simp only[Uf,Ug];omega) ?_;exact N _ _ (L _) q
   ·refine(ZE j _).bind λD ⟨_,H⟩=>?_
    refine(ZE H _).bind λE ⟨_,k⟩=>?_;refine(ZE k _).bind λS ⟨_,q⟩=>?_;refine .guard (by simp only[Uf,Ug];omega) ?_;exact N _ _ (L _) q
 ·rename_i W
  refine(ZE I _).bind λr1 ⟨⟨b0,b1⟩,b⟩=>?_;refine(ZE b 30).bind λr2 ⟨_,f⟩=>?_;have M:1<=l.length/\l.length<=5:=by omega
  have F:∀(i:Nat) (c:Zf) (t:Zd),ZgG c->Src t->YM (some (.inr (List.set l i c,t):((List Zf)×Int×(List Int)×Int×Int×Unit)⊕((List Zf)×Zd)))
    (Rnd (λv:(List Zf)×Int×(List Int)×Int×Int×Unit=>0<=v.2.1/\(v.1.length:Int)+v.2.1=1+d.1/\(∀c∈v.1,ZgG c)/\Src (v.2.2.1,v.2.2.2.1,v.2.2.2.2.1,())) (λv=>v.2.1.toNat) n.toNat (λr=>((1<=r.1.length/\r.1.length<=7)/\∀c∈r.1,ZgG c)/\Src r.2)):=λi c t u z =>
   .ret (show((1<=(List.set l i c).length/\(List.set l i c).length<=7)/\∀J∈List.set l i c,ZgG J)/\Src t from⟨⟨by rw[UZ];omega,ZpR o u⟩,z⟩)
  have h:r1.1<(l.length:Int):=by omega
  have m:∀x∈l,(GA x).length<=4:=o;split
  ·refine(ZE f 2).bind λR ⟨_,g⟩=>?_
   exact .at b0 h λx Z _=>F _ _ _ (m x Z) g
  split
  ·exact .at b0 h λx Z _=>F _ _ _ (m x Z) f
  split
  ·exact .at (by omega) (by omega) λx Z _=>.at b0 h λy _ _=>F _ _ _ (m x Z) f
  split
  ·exact .at b0 h λx Z _=>F _ _ _ (m x Z) f
  split
  ·exact .at b0 h λx Z _=>F _ _ _ (m x Z) f
  split
  ·refine(ZE f 2).bind λR ⟨_,g⟩=>?_
   exact .at (by omega) (by omega) λx Z _=>F _ _ _ (m x Z) g
  split;rotate_left
  ·exact .ret (show((1<=l.length/\l.length<=7)/\∀J∈l,ZgG J)/\Src r2.2 from⟨⟨by omega,o⟩,f⟩)
  refine YM.loop (λv=>v.1.length<=7/\1<=v.1.length/\∀c∈v.1,ZgG c) (λv=>7-v.1.length) ⟨by dsimp only;omega,M.1,o⟩ ?_;rintro⟨a,⟨⟩⟩ ⟨j0,C,A⟩;dsimp only at j0 C A;show YM (ZeE r2 a) _;unfold ZeE;split
  ·refine .at (by omega) (by omega) λx _ _=>?_
   refine(Zna (n:=(a.length:Int))).bind λm w=>?_;refine .guard (by simp only[Uf,Ug];omega) ?_;refine .guard (by simp only[Uf,Ug];omega) ?_;refine .ret ⟨⟨?_,?_,QE A ?_⟩,?_⟩
   ·dsimp only;simp only[Uh,Uf,Ug];omega
   ·dsimp only;simp only[Uh,Uf,Ug];omega
   ·show([(120:UInt8)]++m).length<=4
    simp only[Uh,Uf,Ug];omega
   ·dsimp only;simp only[Uh,Uf,Ug];omega
  ·exact .ret (show((1<=a.length/\a.length<=7)/\∀J∈a,ZgG J)/\Src r2.2 from⟨⟨⟨C,j0⟩,A⟩,f⟩)
theorem Zw0 (h:∀c∈l,ZgG c):ZwZ l:=λc q=>by
 have:=h c q;unfold ZgG at this;omega
def ZoD (e:Zu):Prop:=(G7 e).length<=1/\(G5 e).length<=1/\(Ho e).length<=1
structure ZGq (x:Zo):Prop where
 c0:1<=(Gb x).length
 c1:(Gb x).length<=7
 cn:∀c∈Gb x,ZgG c
 i1:(GN x).length<=100
 o1:(Hn x).length<=100
 e1:(Gz x).length<=100
 ee:∀e∈Gz x,ZoD e
 k0:1<=(GV x).length
 k1:(GV x).length<=2
 kn:∀c∈GV x,(GK c).length<=4
abbrev ZqZ (r:Zc×Zo×Zd):Prop:=ZpN r.1/\ZGq r.2.1/\Src r.2.2
theorem ZfB:∀c∈([([(116:UInt8),(121:UInt8),(112:UInt8)],(1000:Int),(1000:Int),(1000:Int),(1000:Int),())]:List ZA),(GK c).length<=4:=λc q=>by
 rw[Ut]at q;rw[q];show 3<=4;omega
abbrev Zvk:=(List Zu)×Int×(List Int)×Int×Int×Unit
abbrev Zo7:=(List Zh)×(List Zh)×Int×(List Int)×Int×Int×Unit
abbrev Zk9:=Int×(List Int)×Int×Int×(List Zf)×Unit
variable {D:Zc×Zd} {P:List ZF} {cs:List Zf} {i o:List Zh} {n:Int} {Q:Zo7⊕(Zk9⊕(Zc×Zo×Zd))->Prop}
theorem Zwa (f:ZpN D.1) (u:1<=cs.length) (h:cs.length<=7) (H:∀c∈cs,ZgG c) (g:i.length<=100) (m:o.length<=100) (n0:0<=n) (n1:n<=3) (z:Src s) (q:∀r,ZqZ r->Q (.inr (.inr r))) :
  YM (Zt (λv=>ZbD D P cs i o v.1 v.2.1 v.2.2.1 v.2.2.2.1 v.2.2.2.2.1) (([]:List Zu),n,s.fst,s.snd.fst,s.snd.snd.fst,())) Q:=by
 refine YM.loop (λv:Zvk=>0<=v.2.1/\v.2.1<=3/\(v.1.length:Int)+v.2.1<=3/\(∀e∈v.1,ZoD e)/\Src (v.2.2.1,v.2.2.2.1,v.2.2.2.2.1,())) (λv=>v.2.1.toNat) ⟨n0,n1,by dsimp only[List.length_nil];omega,λx Z=>(by cases Z),z⟩ ?_;rintro⟨l,k,c0,c1,c2,⟨⟩⟩ ⟨B,i1,E,I,S⟩;dsimp only at B i1 E I S;show YM (ZbD D P cs i o l k c0 c1 c2) _;unfold ZbD;have C:Wq (k-1)=k-1:=QP;simp only[C];split
 ·have N:∀(e:Zu) (t:Zd),ZoD e->Src t->YM (some (.inl (l++[e],k-1,t.fst,t.snd.fst,t.snd.snd.fst,()):Zvk⊕(Zo7⊕(Zk9⊕(Zc×Zo×Zd)))))
    (Rnd (λv:Zvk=>0<=v.2.1/\v.2.1<=3/\(v.1.length:Int)+v.2.1<=3/\(∀e∈v.1,ZoD e)/\Src (v.2.2.1,v.2.2.2.1,v.2.2.2.2.1,())) (λv=>v.2.1.toNat) k.toNat Q):=λe t y A =>
   .ret ⟨⟨by dsimp only;omega,by dsimp only;omega,by dsimp only;simp only[Uh,Uf,Ug];omega,QE I y,A⟩,by dsimp only;omega⟩
  have p:∀a b:Int,ZoD ((a,b,([]:List Int),([]:List Int),([]:List Int),()):Zu):=λa b=>⟨UM _,UM _,UM _⟩;have w:∀a b c:Int,ZoD ((a,b,([]:List Int),([]:List Int),[c],()):Zu):=λa b c=>⟨UM _,UM _,UE _⟩;repeat' first
   |exact N _ _ (p _ _) (by assumption)
   |exact N _ _ (w _ _ _) (by assumption)
   |split
   |refine YM.guard (by simp only[Uh,Uf,Ug];omega) ?_
   |refine(ZE (by assumption) _).bind λ_ ⟨_,_⟩=>?_
 ·refine(ZE S 2).bind λr ⟨_,d⟩=>?_
  have j:l.length<=100:=by omega
  split
  ·refine .ret (q _ ⟨f,⟨u,h,H,g,m,j,I,?_,?_,QE ZfB ?_⟩,d⟩)
   ·show 1<=([_]++[_]).length;simp
   ·show([_]++[_]).length<=2;simp
   ·show 4<=4;omega
  ·exact .ret (q _ ⟨f,⟨u,h,H,g,m,j,I,UE _,by show 1<=2;omega,ZfB⟩,d⟩)
variable {A:Int×Zd}
theorem Zwe (e:ZpN D.1) (F:P.length<=78) (g:(Gk (K3 D.1)).length<=P.length) (u:1<=cs.length) (h:cs.length<=7) (H:∀c∈cs,ZgG c) (l:Src s) {Q:Zk9⊕(Zc×Zo×Zd)->Prop} (q:∀r,ZqZ r->Q (.inr r)) :
  YM (Zt (λv=>ZbE D P A cs v.1 v.2.1 v.2.2.1 v.2.2.2.1 v.2.2.2.2.1 v.2.2.2.2.2.1) (([]:List Zh),([]:List Zh),Wq ((P.length:Int)-((Gk (K3 D.1)).length:Int)),s.fst,s.snd.fst,s.snd.snd.fst,())) Q:=by
 rw[Yy (n:=(P.length:Int)-((Gk (K3 D.1)).length:Int))];refine YM.loop (λv:Zo7=>0<=v.2.2.1/\v.2.2.1<=(P.length:Int)/\(v.1.length:Int)<=v.2.2.1/\(v.2.1.length:Int)<=v.2.2.1/\Src (v.2.2.2.1,v.2.2.2.2.1,v.2.2.2.2.2.1,())) (λv=>(100-v.2.2.1).toNat)
  ⟨by dsimp only;omega,by dsimp only;omega,by dsimp only[List.length_nil];omega,by dsimp only[List.length_nil];omega,l⟩ ?_
 rintro⟨i,o,p,c0,c1,c2,⟨⟩⟩ ⟨I,i1,y,z,S⟩;dsimp only at I i1 y z S;show YM (ZbE D P A cs i o p c0 c1 c2) _;unfold ZbE;have C:Wq (p+1)=p+1:=QP;simp only[C];split
 ·rename_i k
  have N:∀(a b:List Zh) (t:Zd),(a.length:Int)<=p+1->(b.length:Int)<=p+1->Src t->YM (some (.inl (a,b,p+1,t.fst,t.snd.fst,t.snd.snd.fst,()):Zo7⊕(Zk9⊕(Zc×Zo×Zd))))
    (Rnd (λv:Zo7=>0<=v.2.2.1/\v.2.2.1<=(P.length:Int)/\(v.1.length:Int)<=v.2.2.1/\(v.2.1.length:Int)<=v.2.2.1/\Src (v.2.2.2.1,v.2.2.2.2.1,v.2.2.2.2.2.1,())) (λv=>(100-v.2.2.1).toNat) (100-p).toNat Q):=λa b t m j w =>
   .ret ⟨⟨by dsimp only;omega,by dsimp only;omega,m,j,w⟩,by dsimp only;omega⟩
  refine(ZE S 60).bind λr1 ⟨_,d⟩=>?_;refine(ZE d _).bind λr2 ⟨_,f⟩=>?_;refine(ZE f 30).bind λR ⟨_,B⟩=>?_;refine .at I k λx _ _=>?_;repeat' first
   |exact N _ _ _ (by omega) (by omega) (by assumption)
   |exact N _ _ _ (by first|omega|(simp only[Uh,Uf,Ug];omega)) (by first|omega|(simp only[Uh,Uf,Ug];omega)) (by assumption)
   |split
   |refine YM.guard (by simp only[Uh,Uf,Ug];omega) ?_
   |refine(ZE (by assumption) _).bind λ_ ⟨_,_⟩=>?_
 ·refine(ZE S 3).bind λr ⟨⟨a,b⟩,d⟩=>?_
  exact Zwa e u h H (by omega) (by omega) a (by omega) d (λr E=>q r E)
theorem ZvK (H:ZpN D.1) (a:P.length<=78) (h:(Gk (K3 D.1)).length<=P.length) (e:Src s) :
  YM (Zt (λv=>J9 D P A v.1 v.2.1 v.2.2.1 v.2.2.2.1 v.2.2.2.2.1) ((0:Int),s.fst,s.snd.fst,s.snd.snd.fst,([]:List Zf),())) ZqZ:=by
 refine YM.loop (λv:Zk9=>0<=v.1/\v.1<=7/\(v.2.2.2.2.1.length:Int)=v.1/\(∀c∈v.2.2.2.2.1,ZgG c)/\Src (v.2.1,v.2.2.1,v.2.2.2.1,())) (λv=>(7-v.1).toNat)
  ⟨by dsimp only;omega,by dsimp only;omega,rfl,λx Z=>(by cases Z),e⟩ ?_
 rintro⟨p,c0,c1,c2,cs,⟨⟩⟩ ⟨i,i1,o,I,S⟩;dsimp only at i i1 o I S;show YM (J9 D P A p c0 c1 c2 cs) _;unfold J9;have C:Wq (p+1)=p+1:=QP;simp only[C];split
 ·rename_i g
  have b:p<7:=by simp only[Uf,Ug]at g;omega
  refine .at i g λx Z _=>?_;have n:ZgG x:=by
   rw[Ut]at Z;rw[Z];show 4<=4;omega
  have N:∀(c:Zf) (t:Zd),ZgG c->Src t->YM (some (.inl (p+1,t.fst,t.snd.fst,t.snd.snd.fst,([]:List Zf)++cs++[c],()):Zk9⊕(Zc×Zo×Zd)))
    (Rnd (λv:Zk9=>0<=v.1/\v.1<=7/\(v.2.2.2.2.1.length:Int)=v.1/\(∀c∈v.2.2.2.2.1,ZgG c)/\Src (v.2.1,v.2.2.1,v.2.2.2.1,())) (λv=>(7-v.1).toNat) (7-p).toNat ZqZ):=λc t q f =>
   .ret ⟨⟨by dsimp only;omega,by dsimp only;omega,by dsimp only;simp only[Uh,Uf,Ug];omega,QE (by rw[Uq];exact I) q,f⟩,by dsimp only;omega⟩
  split
  ·refine(ZE S _).bind λr ⟨_,d⟩=>?_
   refine .guard (by simp only[Uh,Uf,Ug];omega) ?_;refine .guard (by simp only[Uh,Uf,Ug];omega) ?_;exact N _ _ n d
  ·refine .guard (by simp only[Uh,Uf,Ug];omega) ?_
   refine .guard (by simp only[Uh,Uf,Ug];omega) ?_;exact N _ (c0,c1,c2,()) n S
 ·rename_i g
  simp only[Uf,Ug]at g;exact Zwe H a h (by omega) (by omega) I (s:=(c0,c1,c2,())) S (λr E=>E)
theorem Zwb (f:ZpN D.1) (u:1<=cs.length) (h:cs.length<=7) (H:∀c∈cs,ZgG c) (g:i.length<=100) (m:o.length<=100) (n0:0<=n) (n1:n<=3) (z:Src s) (q:∀r,ZqZ r->Q (.inr (.inr r))) :
  YM (Zt (λv=>ZbF D P cs i o v.1 v.2.1 v.2.2.1 v.2.2.2.1 v.2.2.2.2.1) (([]:List Zu),n,s.fst,s.snd.fst,s.snd.snd.fst,())) Q:=by
 refine YM.loop (λv:Zvk=>0<=v.2.1/\v.2.1<=3/\(v.1.length:Int)+v.2.1<=3/\(∀e∈v.1,ZoD e)/\Src (v.2.2.1,v.2.2.2.1,v.2.2.2.2.1,())) (λv=>v.2.1.toNat) ⟨n0,n1,by dsimp only[List.length_nil];omega,λx Z=>(by cases Z),z⟩ ?_;rintro⟨l,k,c0,c1,c2,⟨⟩⟩ ⟨B,i1,E,I,S⟩;dsimp only at B i1 E I S;show YM (ZbF D P cs i o l k c0 c1 c2) _;unfold ZbF;have C:Wq (k-1)=k-1:=QP;simp only[C];split
 ·have N:∀(e:Zu) (t:Zd),ZoD e->Src t->YM (some (.inl (l++[e],k-1,t.fst,t.snd.fst,t.snd.snd.fst,()):Zvk⊕(Zo7⊕(Zk9⊕(Zc×Zo×Zd)))))
    (Rnd (λv:Zvk=>0<=v.2.1/\v.2.1<=3/\(v.1.length:Int)+v.2.1<=3/\(∀e∈v.1,ZoD e)/\Src (v.2.2.1,v.2.2.2.1,v.2.2.2.2.1,())) (λv=>v.2.1.toNat) k.toNat Q):=λe t y A =>
   .ret ⟨⟨by dsimp only;omega,by dsimp only;omega,by dsimp only;simp only[Uh,Uf,Ug];omega,QE I y,A⟩,by dsimp only;omega⟩
  have p:∀a b:Int,ZoD ((a,b,([]:List Int),([]:List Int),([]:List Int),()):Zu):=λa b=>⟨UM _,UM _,UM _⟩;have w:∀a b c:Int,ZoD ((a,b,([]:List Int),([]:List Int),[c],()):Zu):=λa b c=>⟨UM _,UM _,UE _⟩;repeat' first
   |exact N _ _ (p _ _) (by assumption)
   |exact N _ _ (w _ _ _) (by assumption)
   |split
   |refine YM.guard (by simp only[Uh,Uf,Ug];omega) ?_
   |refine(ZE (by assumption) _).bind λ_ ⟨_,_⟩=>?_
 ·refine(ZE S 2).bind λr ⟨_,d⟩=>?_
  have j:l.length<=100:=by omega
  split
  ·refine .ret (q _ ⟨f,⟨u,h,H,g,m,j,I,?_,?_,QE ZfB ?_⟩,d⟩)
   ·show 1<=([_]++[_]).length;simp
   ·show([_]++[_]).length<=2;simp
   ·show 4<=4;omega
  ·exact .ret (q _ ⟨f,⟨u,h,H,g,m,j,I,UE _,by show 1<=2;omega,ZfB⟩,d⟩)
variable {A:List Zf×Zd}
theorem Zwf (e:ZpN D.1) (F:P.length<=78) (g:(Gk (K3 D.1)).length<=P.length) (u:1<=cs.length) (h:cs.length<=7) (H:∀c∈cs,ZgG c) (l:Src s) {Q:Zk9⊕(Zc×Zo×Zd)->Prop} (q:∀r,ZqZ r->Q (.inr r)) :
  YM (Zt (λv=>ZbG D P A cs v.1 v.2.1 v.2.2.1 v.2.2.2.1 v.2.2.2.2.1 v.2.2.2.2.2.1) (([]:List Zh),([]:List Zh),Wq ((P.length:Int)-((Gk (K3 D.1)).length:Int)),s.fst,s.snd.fst,s.snd.snd.fst,())) Q:=by
 rw[Yy (n:=(P.length:Int)-((Gk (K3 D.1)).length:Int))];refine YM.loop (λv:Zo7=>0<=v.2.2.1/\v.2.2.1<=(P.length:Int)/\(v.1.length:Int)<=v.2.2.1/\(v.2.1.length:Int)<=v.2.2.1/\Src (v.2.2.2.1,v.2.2.2.2.1,v.2.2.2.2.2.1,())) (λv=>(100-v.2.2.1).toNat)
  ⟨by dsimp only;omega,by dsimp only;omega,by dsimp only[List.length_nil];omega,by dsimp only[List.length_nil];omega,l⟩ ?_
 rintro⟨i,o,p,c0,c1,c2,⟨⟩⟩ ⟨I,i1,y,z,S⟩;dsimp only at I i1 y z S;show YM (ZbG D P A cs i o p c0 c1 c2) _;unfold ZbG;have C:Wq (p+1)=p+1:=QP;simp only[C];split
 ·rename_i k
  have N:∀(a b:List Zh) (t:Zd),(a.length:Int)<=p+1->(b.length:Int)<=p+1->Src t->YM (some (.inl (a,b,p+1,t.fst,t.snd.fst,t.snd.snd.fst,()):Zo7⊕(Zk9⊕(Zc×Zo×Zd))))
    (Rnd (λv:Zo7=>0<=v.2.2.1/\v.2.2.1<=(P.length:Int)/\(v.1.length:Int)<=v.2.2.1/\(v.2.1.length:Int)<=v.2.2.1/\Src (v.2.2.2.1,v.2.2.2.2.1,v.2.2.2.2.2.1,())) (λv=>(100-v.2.2.1).toNat) (100-p).toNat Q):=λa b t m j w =>
   .ret ⟨⟨by dsimp only;omega,by dsimp only;omega,m,j,w⟩,by dsimp only;omega⟩
  refine(ZE S 60).bind λr1 ⟨_,d⟩=>?_;refine(ZE d _).bind λr2 ⟨_,f⟩=>?_;refine(ZE f 30).bind λR ⟨_,B⟩=>?_;refine .at I k λx _ _=>?_;repeat' first
   |exact N _ _ _ (by omega) (by omega) (by assumption)
   |exact N _ _ _ (by first|omega|(simp only[Uh,Uf,Ug];omega)) (by first|omega|(simp only[Uh,Uf,Ug];omega)) (by assumption)
   |split
   |refine YM.guard (by simp only[Uh,Uf,Ug];omega) ?_
   |refine(ZE (by assumption) _).bind λ_ ⟨_,_⟩=>?_
 ·refine(ZE S 3).bind λr ⟨⟨a,b⟩,d⟩=>?_
  exact Zwb e u h H (by omega) (by omega) a (by omega) d (λr E=>q r E)
theorem ZvL (a:ZpN D.1) (b:P.length<=78) (g:(Gk (K3 D.1)).length<=P.length) (k:1<=A.1.length/\A.1.length<=7) (h:∀c∈A.1,ZgG c) (f:Src s) :
  YM (Zt (λv=>ZbH D P A v.1 v.2.1 v.2.2.1 v.2.2.2.1 v.2.2.2.2.1) ((0:Int),s.fst,s.snd.fst,s.snd.snd.fst,([]:List Zf),())) ZqZ:=by
 refine YM.loop (λv:Zk9=>0<=v.1/\v.1<=7/\(v.2.2.2.2.1.length:Int)=v.1/\(∀c∈v.2.2.2.2.1,ZgG c)/\Src (v.2.1,v.2.2.1,v.2.2.2.1,())) (λv=>(7-v.1).toNat)
  ⟨by dsimp only;omega,by dsimp only;omega,rfl,λx Z=>(by cases Z),f⟩ ?_
 rintro⟨p,c0,c1,c2,cs,⟨⟩⟩ ⟨i,i1,o,I,S⟩;dsimp only at i i1 o I S;show YM (ZbH D P A p c0 c1 c2 cs) _;unfold ZbH;have C:Wq (p+1)=p+1:=QP;simp only[C];split
 ·rename_i H
  have e:p<7:=by omega
  refine .at i H λx Z _=>?_;have n:ZgG x:=h x Z;have N:∀(c:Zf) (t:Zd),ZgG c->Src t->YM (some (.inl (p+1,t.fst,t.snd.fst,t.snd.snd.fst,([]:List Zf)++cs++[c],()):Zk9⊕(Zc×Zo×Zd)))
    (Rnd (λv:Zk9=>0<=v.1/\v.1<=7/\(v.2.2.2.2.1.length:Int)=v.1/\(∀c∈v.2.2.2.2.1,ZgG c)/\Src (v.2.1,v.2.2.1,v.2.2.2.1,())) (λv=>(7-v.1).toNat) (7-p).toNat ZqZ):=λc t q j =>
   .ret ⟨⟨by dsimp only;omega,by dsimp only;omega,by dsimp only;simp only[Uh,Uf,Ug];omega,QE (by rw[Uq];exact I) q,j⟩,by dsimp only;omega⟩
  split
  ·refine(ZE S _).bind λr ⟨_,d⟩=>?_
   refine .guard (by simp only[Uh,Uf,Ug];omega) ?_;refine .guard (by simp only[Uh,Uf,Ug];omega) ?_;exact N _ _ n d
  ·refine .guard (by simp only[Uh,Uf,Ug];omega) ?_
   refine .guard (by simp only[Uh,Uf,Ug];omega) ?_;exact N _ (c0,c1,c2,()) n S
 ·rename_i H
  exact Zwf a b g (by omega) (by omega) I (s:=(c0,c1,c2,())) S (λr E=>E)
theorem Zwc (f:ZpN D.1) (u:1<=cs.length) (h:cs.length<=7) (H:∀c∈cs,ZgG c) (g:i.length<=100) (m:o.length<=100) (n0:0<=n) (n1:n<=3) (z:Src s) (q:∀r,ZqZ r->Q (.inr (.inr r))) :
  YM (Zt (λv=>ZbI D P cs i o v.1 v.2.1 v.2.2.1 v.2.2.2.1 v.2.2.2.2.1) (([]:List Zu),n,s.fst,s.snd.fst,s.snd.snd.fst,())) Q:=by
 refine YM.loop (λv:Zvk=>0<=v.2.1/\v.2.1<=3/\(v.1.length:Int)+v.2.1<=3/\(∀e∈v.1,ZoD e)/\Src (v.2.2.1,v.2.2.2.1,v.2.2.2.2.1,())) (λv=>v.2.1.toNat) ⟨n0,n1,by dsimp only[List.length_nil];omega,λx Z=>(by cases Z),z⟩ ?_;rintro⟨l,k,c0,c1,c2,⟨⟩⟩ ⟨B,i1,E,I,S⟩;dsimp only at B i1 E I S;show YM (ZbI D P cs i o l k c0 c1 c2) _;unfold ZbI;have C:Wq (k-1)=k-1:=QP;simp only[C];split
 ·have N:∀(e:Zu) (t:Zd),ZoD e->Src t->YM (some (.inl (l++[e],k-1,t.fst,t.snd.fst,t.snd.snd.fst,()):Zvk⊕(Zo7⊕(Zk9⊕(Zc×Zo×Zd)))))
    (Rnd (λv:Zvk=>0<=v.2.1/\v.2.1<=3/\(v.1.length:Int)+v.2.1<=3/\(∀e∈v.1,ZoD e)/\Src (v.2.2.1,v.2.2.2.1,v.2.2.2.2.1,())) (λv=>v.2.1.toNat) k.toNat Q):=λe t y A =>
   .ret ⟨⟨by dsimp only;omega,by dsimp only;omega,by dsimp only;simp only[Uh,Uf,Ug];omega,QE I y,A⟩,by dsimp only;omega⟩
  have p:∀a b:Int,ZoD ((a,b,([]:List Int),([]:List Int),([]:List Int),()):Zu):=λa b=>⟨UM _,UM _,UM _⟩;have w:∀a b c:Int,ZoD ((a,b,([]:List Int),([]:List Int),[c],()):Zu):=λa b c=>⟨UM _,UM _,UE _⟩;repeat' first
   |exact N _ _ (p _ _) (by assumption)
   |exact N _ _ (w _ _ _) (by assumption)
   |split
   |refine YM.guard (by simp only[Uh,Uf,Ug];omega) ?_
   |refine(ZE (by assumption) _).bind λ_ ⟨_,_⟩=>?_
 ·refine(ZE S 2).bind λr ⟨_,d⟩=>?_
  have j:l.length<=100:=by omega
  split
  ·refine .ret (q _ ⟨f,⟨u,h,H,g,m,j,I,?_,?_,QE ZfB ?_⟩,d⟩)
   ·show 1<=([_]++[_]).length;simp
   ·show([_]++[_]).length<=2;simp
   ·show 4<=4;omega
  ·exact .ret (q _ ⟨f,⟨u,h,H,g,m,j,I,UE _,by show 1<=2;omega,ZfB⟩,d⟩)
theorem Zwg (e:ZpN D.1) (F:P.length<=78) (g:(Gk (K3 D.1)).length<=P.length) {A:Int×Zd} (u:1<=cs.length) (h:cs.length<=7) (H:∀c∈cs,ZgG c) (l:Src s) {Q:Zk9⊕(Zc×Zo×Zd)->Prop} (q:∀r,ZqZ r->Q (.inr r)) :
  YM (Zt (λv=>ZbJ D P A cs v.1 v.2.1 v.2.2.1 v.2.2.2.1 v.2.2.2.2.1 v.2.2.2.2.2.1) (([]:List Zh),([]:List Zh),Wq ((P.length:Int)-((Gk (K3 D.1)).length:Int)),s.fst,s.snd.fst,s.snd.snd.fst,())) Q:=by
 rw[Yy (n:=(P.length:Int)-((Gk (K3 D.1)).length:Int))];refine YM.loop (λv:Zo7=>0<=v.2.2.1/\v.2.2.1<=(P.length:Int)/\(v.1.length:Int)<=v.2.2.1/\(v.2.1.length:Int)<=v.2.2.1/\Src (v.2.2.2.1,v.2.2.2.2.1,v.2.2.2.2.2.1,())) (λv=>(100-v.2.2.1).toNat)
  ⟨by dsimp only;omega,by dsimp only;omega,by dsimp only[List.length_nil];omega,by dsimp only[List.length_nil];omega,l⟩ ?_
 rintro⟨i,o,p,c0,c1,c2,⟨⟩⟩ ⟨I,i1,y,z,S⟩;dsimp only at I i1 y z S;show YM (ZbJ D P A cs i o p c0 c1 c2) _;unfold ZbJ;have C:Wq (p+1)=p+1:=QP;simp only[C];split
 ·rename_i k
  have N:∀(a b:List Zh) (t:Zd),(a.length:Int)<=p+1->(b.length:Int)<=p+1->Src t->YM (some (.inl (a,b,p+1,t.fst,t.snd.fst,t.snd.snd.fst,()):Zo7⊕(Zk9⊕(Zc×Zo×Zd))))
    (Rnd (λv:Zo7=>0<=v.2.2.1/\v.2.2.1<=(P.length:Int)/\(v.1.length:Int)<=v.2.2.1/\(v.2.1.length:Int)<=v.2.2.1/\Src (v.2.2.2.1,v.2.2.2.2.1,v.2.2.2.2.2.1,())) (λv=>(100-v.2.2.1).toNat) (100-p).toNat Q):=λa b t m j w =>
   .ret ⟨⟨by dsimp only;omega,by dsimp only;omega,m,j,w⟩,by dsimp only;omega⟩
  refine(ZE S 60).bind λr1 ⟨_,d⟩=>?_;refine(ZE d _).bind λr2 ⟨_,f⟩=>?_;refine(ZE f 30).bind λR ⟨_,B⟩=>?_;refine .at I k λx _ _=>?_;repeat' first
   |exact N _ _ _ (by omega) (by omega) (by assumption)
   |exact N _ _ _ (by first|omega|(simp only[Uh,Uf,Ug];omega)) (by first|omega|(simp only[Uh,Uf,Ug];omega)) (by assumption)
   |split
   |refine YM.guard (by simp only[Uh,Uf,Ug];omega) ?_
   |refine(ZE (by assumption) _).bind λ_ ⟨_,_⟩=>?_
 ·refine(ZE S 3).bind λr ⟨⟨a,b⟩,d⟩=>?_
  exact Zwc e u h H (by omega) (by omega) a (by omega) d (λr E=>q r E)
theorem ZvM (H:ZpN D.1) (a:P.length<=78) (h:(Gk (K3 D.1)).length<=P.length) {A:Int×Zd} (e:Src s) :
  YM (Zt (λv=>Zaa D P A v.1 v.2.1 v.2.2.1 v.2.2.2.1 v.2.2.2.2.1) ((0:Int),s.fst,s.snd.fst,s.snd.snd.fst,([]:List Zf),())) ZqZ:=by
 refine YM.loop (λv:Zk9=>0<=v.1/\v.1<=7/\(v.2.2.2.2.1.length:Int)=v.1/\(∀c∈v.2.2.2.2.1,ZgG c)/\Src (v.2.1,v.2.2.1,v.2.2.2.1,())) (λv=>(7-v.1).toNat)
  ⟨by dsimp only;omega,by dsimp only;omega,rfl,λx Z=>(by cases Z),e⟩ ?_
 rintro⟨p,c0,c1,c2,cs,⟨⟩⟩ ⟨i,i1,o,I,S⟩;dsimp only at i i1 o I S;show YM (Zaa D P A p c0 c1 c2 cs) _;unfold Zaa;have C:Wq (p+1)=p+1:=QP;simp only[C];split
 ·rename_i g
  have b:p<7:=by simp only[Uf,Ug]at g;omega
  refine .at i g λx Z _=>?_;have n:ZgG x:=by
   rw[Ut]at Z;rw[Z];show 4<=4;omega
  have N:∀(c:Zf) (t:Zd),ZgG c->Src t->YM (some (.inl (p+1,t.fst,t.snd.fst,t.snd.snd.fst,([]:List Zf)++cs++[c],()):Zk9⊕(Zc×Zo×Zd)))
    (Rnd (λv:Zk9=>0<=v.1/\v.1<=7/\(v.2.2.2.2.1.length:Int)=v.1/\(∀c∈v.2.2.2.2.1,ZgG c)/\Src (v.2.1,v.2.2.1,v.2.2.2.1,())) (λv=>(7-v.1).toNat) (7-p).toNat ZqZ):=λc t q f =>
   .ret ⟨⟨by dsimp only;omega,by dsimp only;omega,by dsimp only;simp only[Uh,Uf,Ug];omega,QE (by rw[Uq];exact I) q,f⟩,by dsimp only;omega⟩
  split
  ·refine(ZE S _).bind λr ⟨_,d⟩=>?_
   refine .guard (by simp only[Uh,Uf,Ug];omega) ?_;refine .guard (by simp only[Uh,Uf,Ug];omega) ?_;exact N _ _ n d
  ·refine .guard (by simp only[Uh,Uf,Ug];omega) ?_
   refine .guard (by simp only[Uh,Uf,Ug];omega) ?_;exact N _ (c0,c1,c2,()) n S
 ·rename_i g
  simp only[Uf,Ug]at g;exact Zwg H a h (by omega) (by omega) I (s:=(c0,c1,c2,())) S (λr E=>E)
theorem Zwd (f:ZpN D.1) (u:1<=cs.length) (h:cs.length<=7) (H:∀c∈cs,ZgG c) (g:i.length<=100) (m:o.length<=100) (n0:0<=n) (n1:n<=3) (z:Src s) (q:∀r,ZqZ r->Q (.inr (.inr r))) :
  YM (Zt (λv=>ZbK D P cs i o v.1 v.2.1 v.2.2.1 v.2.2.2.1 v.2.2.2.2.1) (([]:List Zu),n,s.fst,s.snd.fst,s.snd.snd.fst,())) Q:=by
 refine YM.loop (λv:Zvk=>0<=v.2.1/\v.2.1<=3/\(v.1.length:Int)+v.2.1<=3/\(∀e∈v.1,ZoD e)/\Src (v.2.2.1,v.2.2.2.1,v.2.2.2.2.1,())) (λv=>v.2.1.toNat) ⟨n0,n1,by dsimp only[List.length_nil];omega,λx Z=>(by cases Z),z⟩ ?_;rintro⟨l,k,c0,c1,c2,⟨⟩⟩ ⟨B,i1,E,I,S⟩;dsimp only at B i1 E I S;show YM (ZbK D P cs i o l k c0 c1 c2) _;unfold ZbK;have C:Wq (k-1)=k-1:=QP;simp only[C];split
 ·have N:∀(e:Zu) (t:Zd),ZoD e->Src t->YM (some (.inl (l++[e],k-1,t.fst,t.snd.fst,t.snd.snd.fst,()):Zvk⊕(Zo7⊕(Zk9⊕(Zc×Zo×Zd)))))
    (Rnd (λv:Zvk=>0<=v.2.1/\v.2.1<=3/\(v.1.length:Int)+v.2.1<=3/\(∀e∈v.1,ZoD e)/\Src (v.2.2.1,v.2.2.2.1,v.2.2.2.2.1,())) (λv=>v.2.1.toNat) k.toNat Q):=λe t y A =>
   .ret ⟨⟨by dsimp only;omega,by dsimp only;omega,by dsimp only;simp only[Uh,Uf,Ug];omega,QE I y,A⟩,by dsimp only;omega⟩
  have p:∀a b:Int,ZoD ((a,b,([]:List Int),([]:List Int),([]:List Int),()):Zu):=λa b=>⟨UM _,UM _,UM _⟩;have w:∀a b c:Int,ZoD ((a,b,([]:List Int),([]:List Int),[c],()):Zu):=λa b c=>⟨UM _,UM _,UE _⟩;repeat' first
   |exact N _ _ (p _ _) (by assumption)
   |exact N _ _ (w _ _ _) (by assumption)
   |split
   |refine YM.guard (by simp only[Uh,Uf,Ug];omega) ?_
   |refine(ZE (by assumption) _).bind λ_ ⟨_,_⟩=>?_
 ·refine(ZE S 2).bind λr ⟨_,d⟩=>?_
  have j:l.length<=100:=by omega
  split
  ·refine .ret (q _ ⟨f,⟨u,h,H,g,m,j,I,?_,?_,QE ZfB ?_⟩,d⟩)
   ·show 1<=([_]++[_]).length;simp
   ·show([_]++[_]).length<=2;simp
   ·show 4<=4;omega
  ·exact .ret (q _ ⟨f,⟨u,h,H,g,m,j,I,UE _,by show 1<=2;omega,ZfB⟩,d⟩)
theorem Zwh (e:ZpN D.1) (F:P.length<=78) (g:(Gk (K3 D.1)).length<=P.length) (u:1<=cs.length) (h:cs.length<=7) (H:∀c∈cs,ZgG c) (l:Src s) {Q:Zk9⊕(Zc×Zo×Zd)->Prop} (q:∀r,ZqZ r->Q (.inr r)) :
  YM (Zt (λv=>Za9 D P A cs v.1 v.2.1 v.2.2.1 v.2.2.2.1 v.2.2.2.2.1 v.2.2.2.2.2.1) (([]:List Zh),([]:List Zh),Wq ((P.length:Int)-((Gk (K3 D.1)).length:Int)),s.fst,s.snd.fst,s.snd.snd.fst,())) Q:=by
 rw[Yy (n:=(P.length:Int)-((Gk (K3 D.1)).length:Int))];refine YM.loop (λv:Zo7=>0<=v.2.2.1/\v.2.2.1<=(P.length:Int)/\(v.1.length:Int)<=v.2.2.1/\(v.2.1.length:Int)<=v.2.2.1/\Src (v.2.2.2.1,v.2.2.2.2.1,v.2.2.2.2.2.1,())) (λv=>(100-v.2.2.1).toNat)
  ⟨by dsimp only;omega,by dsimp only;omega,by dsimp only[List.length_nil];omega,by dsimp only[List.length_nil];omega,l⟩ ?_
 rintro⟨i,o,p,c0,c1,c2,⟨⟩⟩ ⟨I,i1,y,z,S⟩;dsimp only at I i1 y z S;show YM (Za9 D P A cs i o p c0 c1 c2) _;unfold Za9;have C:Wq (p+1)=p+1:=QP;simp only[C];split
 ·rename_i k
  have N:∀(a b:List Zh) (t:Zd),(a.length:Int)<=p+1->(b.length:Int)<=p+1->Src t->YM (some (.inl (a,b,p+1,t.fst,t.snd.fst,t.snd.snd.fst,()):Zo7⊕(Zk9⊕(Zc×Zo×Zd))))
    (Rnd (λv:Zo7=>0<=v.2.2.1/\v.2.2.1<=(P.length:Int)/\(v.1.length:Int)<=v.2.2.1/\(v.2.1.length:Int)<=v.2.2.1/\Src (v.2.2.2.1,v.2.2.2.2.1,v.2.2.2.2.2.1,())) (λv=>(100-v.2.2.1).toNat) (100-p).toNat Q):=λa b t m j w =>
   .ret ⟨⟨by dsimp only;omega,by dsimp only;omega,m,j,w⟩,by dsimp only;omega⟩
  refine(ZE S 60).bind λr1 ⟨_,d⟩=>?_;refine(ZE d _).bind λr2 ⟨_,f⟩=>?_;refine(ZE f 30).bind λR ⟨_,B⟩=>?_;refine .at I k λx _ _=>?_;repeat' first
   |exact N _ _ _ (by omega) (by omega) (by assumption)
   |exact N _ _ _ (by first|omega|(simp only[Uh,Uf,Ug];omega)) (by first|omega|(simp only[Uh,Uf,Ug];omega)) (by assumption)
   |split
   |refine YM.guard (by simp only[Uh,Uf,Ug];omega) ?_
   |refine(ZE (by assumption) _).bind λ_ ⟨_,_⟩=>?_
 ·refine(ZE S 3).bind λr ⟨⟨a,b⟩,d⟩=>?_
  exact Zwd e u h H (by omega) (by omega) a (by omega) d (λr E=>q r E)
theorem ZvN (a:ZpN D.1) (b:P.length<=78) (g:(Gk (K3 D.1)).length<=P.length) (k:1<=A.1.length/\A.1.length<=7) (h:∀c∈A.1,ZgG c) (f:Src s) :
  YM (Zt (λv=>Zba D P A v.1 v.2.1 v.2.2.1 v.2.2.2.1 v.2.2.2.2.1) ((0:Int),s.fst,s.snd.fst,s.snd.snd.fst,([]:List Zf),())) ZqZ:=by
 refine YM.loop (λv:Zk9=>0<=v.1/\v.1<=7/\(v.2.2.2.2.1.length:Int)=v.1/\(∀c∈v.2.2.2.2.1,ZgG c)/\Src (v.2.1,v.2.2.1,v.2.2.2.1,())) (λv=>(7-v.1).toNat)
  ⟨by dsimp only;omega,by dsimp only;omega,rfl,λx Z=>(by cases Z),f⟩ ?_
 rintro⟨p,c0,c1,c2,cs,⟨⟩⟩ ⟨i,i1,o,I,S⟩;dsimp only at i i1 o I S;show YM (Zba D P A p c0 c1 c2 cs) _;unfold Zba;have C:Wq (p+1)=p+1:=QP;simp only[C];split
 ·rename_i H
  have e:p<7:=by omega
  refine .at i H λx Z _=>?_;have n:ZgG x:=h x Z;have N:∀(c:Zf) (t:Zd),ZgG c->Src t->YM (some (.inl (p+1,t.fst,t.snd.fst,t.snd.snd.fst,([]:List Zf)++cs++[c],()):Zk9⊕(Zc×Zo×Zd)))
    (Rnd (λv:Zk9=>0<=v.1/\v.1<=7/\(v.2.2.2.2.1.length:Int)=v.1/\(∀c∈v.2.2.2.2.1,ZgG c)/\Src (v.2.1,v.2.2.1,v.2.2.2.1,())) (λv=>(7-v.1).toNat) (7-p).toNat ZqZ):=λc t q j =>
   .ret ⟨⟨by dsimp only;omega,by dsimp only;omega,by dsimp only;simp only[Uh,Uf,Ug];omega,QE (by rw[Uq];exact I) q,j⟩,by dsimp only;omega⟩
  split
  ·refine(ZE S _).bind λr ⟨_,d⟩=>?_
   refine .guard (by simp only[Uh,Uf,Ug];omega) ?_;refine .guard (by simp only[Uh,Uf,Ug];omega) ?_;exact N _ _ n d
  ·refine .guard (by simp only[Uh,Uf,Ug];omega) ?_
   refine .guard (by simp only[Uh,Uf,Ug];omega) ?_;exact N _ (c0,c1,c2,()) n S
 ·rename_i H
  exact Zwh a b g (by omega) (by omega) I (s:=(c0,c1,c2,())) S (λr E=>E)
theorem Zva (j:Src s):YM (Zg8 s) ZqZ:=by
 unfold Zg8;refine(Zpb j (most:=4) (by omega) (by omega) _).bind λc ⟨b0,k⟩=>?_;have b:∀{d:Ze},Zzk d->YU d=some (ZB d)/\(ZB d).length<=78/\(Gk d).length<=(ZB d).length:=λ{d} L=>by
  refine⟨Y5 d L.few,YT L.few,?_⟩;unfold ZB;rw[Uh];have:∀(l:List Y8) (m:Nat),(cat Zgq m l).length=l.length:=by
   intro l;induction l with
   |nil=>intro m;rfl
   |cons x r I=>intro m;simp only[cat,Uh,Zgq,Uf,Ug,I];omega
  rw[this];omega
 refine(ZE k 6).bind λr1 ⟨_,H⟩=>?_;split
 ·refine(Zpb H (most:=5) (by omega) (by omega) _).bind λr2 ⟨N,e⟩=>?_
  obtain⟨e1,f,i⟩:=b N.des;refine(YM.of (a:=ZB (K3 r2.1)) e1 rfl:YM _ (λa=>a=ZB (K3 r2.1))).bind λP p=>?_;subst p;refine(Zns e).bind λR ⟨⟨q,W⟩,g⟩=>?_;split
  ·omega
  ·refine(YM.of (ZfI R.1 (Zw0 W)) trivial:YM _ (λ_=>True)).bind λok _=>?_
   split
   ·exact ZvL N f i q W g
   ·refine(ZE g 400).bind λn ⟨_,h⟩=>?_
    exact ZvK N f i h
 ·obtain⟨e1,f,i⟩:=b b0.des
  refine(YM.of (a:=ZB (K3 c.1)) e1 rfl:YM _ (λa=>a=ZB (K3 c.1))).bind λP p=>?_;subst p;refine(Zns H).bind λR ⟨⟨q,W⟩,g⟩=>?_;split
  ·omega
  ·refine(YM.of (ZfI R.1 (Zw0 W)) trivial:YM _ (λ_=>True)).bind λok _=>?_
   split
   ·exact ZvN b0 f i q W g
   ·refine(ZE g 400).bind λn ⟨_,h⟩=>?_
    exact ZvM b0 f i h
theorem ZpD {l:List Zh} (h:l.length<=1048576):sm (.sl Jz) l:=smL h (λ_ _=>⟨trivial,trivial,⟨trivial,trivial,trivial⟩,⟨trivial,trivial,trivial⟩,trivial⟩)
theorem Zxq (h:l.length<=1048576) (f:∀ c∈l,ZgG c):sm (.sl ZbL) l:=smL h (λc q=>by
 have:=f c q;unfold ZgG at this;exact ⟨smS (by show (GA c).length<=_;omega),trivial,trivial,trivial,trivial,trivial,trivial,trivial,trivial,trivial,trivial,trivial⟩)
theorem Zxs {l:List Zu} (h:l.length<=1048576) (f:∀ e∈l,ZoD e):sm (.sl Jj) l:=smL h (λe H=>by
 obtain ⟨a,b,c⟩:=f e H;exact ⟨trivial,trivial,smI (by show (G7 e).length<=_;omega),smI (by show (G5 e).length<=_;omega),smI (by show (Ho e).length<=_;omega),trivial⟩)
theorem Zxr {l:List ZA} (h:l.length<=1048576) (f:∀ c∈l,(GK c).length<=4):sm (.sl Qf) l:=smL h (λc q=>by
 have:=f c q;exact ⟨smS (by show (GK c).length<=_;omega),trivial,trivial,trivial,trivial,trivial⟩)
theorem Zx1 (m:Src s):YM (ZeI s) (λr=>ZpN r.1/\(sm Zc4 r.2.1/\(Gb r.2.1).length<=7)/\Src r.2.2):=by
 unfold ZeI;refine(Zva m).bind λd ⟨H,Z,j⟩=>?_;obtain⟨c0,c1,cn,i1,o1,e1,ee,k0,k1,kn⟩:=Z;refine(ZE j 24).bind λr1 ⟨_,h⟩=>?_;have S:=Zxq (by omega) cn;have i:=ZpD (l:=GN d.2.1) (by omega);have o:=ZpD (l:=Hn d.2.1) (by omega);have f:=Zxs (by omega) ee;have k:=Zxr (by omega) kn;have same:YM (some (d.1,d.2.1,r1.2)) (λr=>ZpN r.1/\(sm Zc4 r.2.1/\(Gb r.2.1).length<=7)/\Src r.2.2):=.ret ⟨H,⟨⟨S,i,o,f,k,trivial⟩,c1⟩,h⟩;split
 ·refine(ZE h 2).bind λr2 ⟨⟨a,b⟩,g⟩=>?_
  refine .at a (by simp only[Uf,Ug];omega) λx _ _=>?_;refine .at (by omega) (by show(0:Int)<((Gb d.2.1).length:Int);omega) λc e _=>?_;refine .ret ⟨H,⟨⟨Zxq ?_ (ZpR cn (cn c e)),i,o,f,k,trivial⟩,?_⟩,g⟩
  ·show(List.set (Gb d.2.1) _ _).length<=_
   rw[UZ];omega
  ·show(List.set (Gb d.2.1) _ _).length<=7
   rw[UZ];exact c1
 split
 ·split
  ·rename_i q
   refine(ZE h 2).bind λr2 ⟨⟨a,b⟩,g⟩=>?_;refine .at a (by simp only[Uf,Ug];omega) λx _ _=>?_;refine .at (by omega) q λc e _=>?_;refine .ret ⟨H,⟨⟨S,ZpD ?_,o,f,k,trivial⟩,c1⟩,g⟩;show(List.set (GN d.2.1) _ _).length<=_;rw[UZ];omega
  ·exact same
 split
 ·split
  ·rename_i q
   refine .at (by omega) q λc e _=>?_;refine .ret ⟨H,⟨⟨S,ZpD ?_,o,f,k,trivial⟩,c1⟩,h⟩;show(List.set (GN d.2.1) _ _).length<=_;rw[UZ];omega
  ·exact same
 split
 ·split
  ·rename_i q
   refine .at (by omega) q λc e _=>?_;refine .ret ⟨H,⟨⟨S,i,ZpD ?_,f,k,trivial⟩,c1⟩,h⟩;show(List.set (Hn d.2.1) _ _).length<=_;rw[UZ];omega
  ·exact same
 split
 ·refine .at (by omega) (by show(0:Int)<((GV d.2.1).length:Int);omega) λc e _=>?_
  have q:(GV d.2.1++[c]).length<=1048576:=by rw[Uh,UV];omega
  refine .guard (by show((GV d.2.1).length+1)*48<=140737488355328;omega) (.ret ⟨H,⟨⟨S,i,o,f,Zxr q (QE kn (kn c e)),trivial⟩,c1⟩,h⟩)
 split
 ·have q:(Gz d.2.1++[((0:Int),(0:Int),([]:List Int),([]:List Int),([]:List Int),())]).length<=1048576:=by rw[Uh,UV];omega
  refine .guard (by show((Gz d.2.1).length+1)*88<=140737488355328;omega) (.ret ⟨H,⟨⟨S,i,o,Zxs q (QE ee ⟨UM _,UM _,UM _⟩),k,trivial⟩,c1⟩,h⟩)
 split
 ·split
  ·rename_i q
   refine .at (by omega) q λc e _=>?_;have R:(GN d.2.1++[c]).length<=1048576:=by rw[Uh,UV];omega
   refine .guard (by show((GN d.2.1).length+1)*48<=140737488355328;omega) (.ret ⟨H,⟨⟨S,ZpD R,o,f,k,trivial⟩,c1⟩,h⟩)
  ·exact same
 split
 ·exact .ret ⟨H,⟨⟨smL (by simp) (by simp),smL (by simp) (by simp),smL (by simp) (by simp),smL (by simp) (by simp),smL (by simp) (by simp),trivial⟩,by show 0<=7;omega⟩,h⟩
 ·exact same
theorem ZLg {code:List Int} (q:∀x∈code,0<=x/\x<=255) (h:code.length<=4096):YM (ZIM code) (λr=>ZpN r.1/\(sm Zc4 r.2.1/\(Gb r.2.1).length<=7)):=by
 unfold ZIM;refine(Zwr q h).bind λs H=>?_;refine(Zx1 H).bind λr ⟨b,Z,k⟩=>?_;exact(ZE k _).bind λr1 ⟨_,d⟩=>(ZE d 8).bind λr2 ⟨_,f⟩=>(ZE f _).bind λR ⟨_,g⟩=>(ZE g 8).bind λa ⟨_,i⟩=>.ret ⟨b,Z⟩
theorem ZLF (y:ZfS l) (q:ZI4 l a 0 a 0=0):ZIZ (ZIB l a a).1=some true:=by
 have h:=ZLv q;have wb:=ZGp h.ok h.b0 h.b1;have p1:=wb.p1;have p2:=wb.p2;rw[ZLR q];have k:=h.b0;have d:=h.b1;have g:l[a.toNat]?=some (l[a.toNat]'(by omega)):=Ua _;have u:=Zsq y (List.getElem_mem (l:=l) (n:=a.toNat) (by omega));show ZIZ (ZLE l a a (ZgC l a).period 0)=_;unfold ZIZ ZhQ ZLE;rw[g,UQ];generalize l[a.toNat]'(by omega)=c at u;show((Z6 (ZgC l a).period _ _).bind _ |>.bind _)=_;rw[Qs,Bq,ZR (by omega),Bq,Uc rfl];show((Z6 (0:Int) _ _).bind _ |>.bind _)=_;rw[Qs,Bq,ZR (by omega),Bq,Uc rfl];show(Z6 (max (Ht c) (Ht c)) _ _).bind _=_;rw[Qs,Bq,ZR (by omega)]
theorem ZLO (x:Zmj):(Decidable.decide (HA x=HA x)&&(Decidable.decide (HB x=HB x)&&(Decidable.decide (Hz x=Hz x)&&Decidable.decide (HG x=HG x))))=true:=by simp
theorem ZJM (code:List Int) (w:bnd (.sl (.int .u8)) code):ZIK code=some true:=by
 unfold ZIK Zqk;rw[Bq];by_cases h:decide ((4096:Int)<(code.length:Int))=true
 ·rw[Uc h]
 rw[Ue h];have n:code.length<=4096:=by
  simp only[Ul]at h;omega
 obtain⟨⟨b,s,r,C⟩,L,p,f,m⟩:=ZLg (λx Z=>w.2 x Z) n;have e:sm Xi b:=p.sm;have f:sm Zc4 s:=f;have m:(Gb s).length<=7:=m;have W:ZwZ (Gb s):=λc Q=>by
  have D:((GA c).length:Int)<=1048576:=(f.1.2 c Q).1;omega
 have r1:=ZJ7 s C C;have r2:=ZJ9 s C C W;rw[L,Bq];rcases Zxl b s r e f with⟨x,v,t,H,Z,e1,E⟩|⟨code,d,e1,E⟩;rotate_left
 ·have i1:ZIu b s r C=some ([],code):=by
   unfold ZIu;rw[e1,Bq,Ue d]
  have o:ZIv b s r C=some ([],code):=by
   unfold ZIv;rw[E,Bq,Ue d]
  rw[show ZIu (b,s,r,C).fst (b,s,r,C).snd.fst (b,s,r,C).snd.snd.fst (b,s,r,C).snd.snd.snd=_ from i1,show ZIv (b,s,r,C).fst (b,s,r,C).snd.fst (b,s,r,C).snd.snd.fst (b,s,r,C).snd.snd.snd=_ from o,Bq,Bq,Uc rfl,Uc rfl,Ue d]
 have G:=ZrV b s r e f;have z:Zbe b s r=some (t,0):=by
  unfold Zbe;rw[e1,Bq,Uc rfl,Bq]
 have g:Zji (QU b) t:=H.is.tb;obtain⟨l,c1,c2,O⟩:=ZLB H.blk H.view g (ZIB (Gb s) C C).1;by_cases q:(ZIB (Gb s) C C).2=0;rotate_left
 ·have i1:ZIu b s r C=some ([],(ZIB (Gb s) C C).2):=by
   unfold ZIu;rw[e1,Bq,Uc rfl,r1,Bq,Ue q]
  have o:ZIv b s r C=some ([],(ZIB (Gb s) C C).2):=by
   unfold ZIv;rw[E,Bq,Uc rfl,r2,Bq,Ue q]
  rw[show ZIu (b,s,r,C).fst (b,s,r,C).snd.fst (b,s,r,C).snd.snd.fst (b,s,r,C).snd.snd.snd=_ from i1,show ZIv (b,s,r,C).fst (b,s,r,C).snd.fst (b,s,r,C).snd.snd.fst (b,s,r,C).snd.snd.snd=_ from o,Bq,Bq,Uc rfl,Uc rfl,Ue q]
 have i1:ZIu b s r C=some (l,0):=by
  unfold ZIu;rw[e1,Bq,Uc rfl,r1,Bq,Uc q,Bq,show ZIJ (ZM.view (HI (((v,XG b (ZqW b),()),x,ZqL s,t,()):ZcU))) (Hv (((v,XG b (ZqW b),()),x,ZqL s,t,()):ZcU)) (ZIB (Gb s) C C).1=some l from c1,Bq]
 have o:ZIv b s r C=some (l,0):=by
  unfold ZIv;rw[E,Bq,Uc rfl,r2,Bq,Uc q,c2,Bq]
 have a:ZI4 (Gb s) C 0 C 0=0:=q;have i:=ZLF H.set.2.1 a;have j:=H.is.ZMR;have B:=nN b;have I:ZI6 b t (ZIB (Gb s) C C).1=some (l,0):=by
  unfold ZI6 ZJx ZJy;rw[ZbX b e,Bq,Uc (ZR H.set.1),H.new,Bq,ZKP H.blk v H.view.ZB,Bq,Uc (ZR (by rw[show(2*((ZB (K3 b)).length:Int))=(QU b:Int) by omega];exact j)),Bq,Uc rfl,i,Bq,Uc rfl,Bq,Uc rfl,Bq,c1,Bq]
 rw[show ZIu (b,s,r,C).fst (b,s,r,C).snd.fst (b,s,r,C).snd.snd.fst (b,s,r,C).snd.snd.snd=_ from i1,show ZIv (b,s,r,C).fst (b,s,r,C).snd.fst (b,s,r,C).snd.snd.fst (b,s,r,C).snd.snd.snd=_ from o,Bq,Bq,Uc rfl,Uc rfl,Uc rfl,
  show Zbe (b,s,r,C).fst (b,s,r,C).snd.fst (b,s,r,C).snd.snd.fst=_ from z,Bq,show ZIO (b,s,r,C).snd.fst (b,s,r,C).snd.snd.snd (b,s,r,C).snd.snd.snd=_ from r1,Bq,show ZI6 (b,s,r,C).fst ((t,(0:Int)):Zr×Int).fst (ZIB (Gb s) C C).1=_ from I,Bq,Uc rfl,Uc rfl]
 refine Za1 (l:=l) (ρ:=Bool) (λk=>((k:Int),())) (step:=λu=>ZIt (l,0) (l,0) u.1) (good:=true) (λk y A F=>?_) ?_
 ·show ZIt (l,0) (l,0) (k:Int)=_
  unfold ZIt;dsimp only;rw[Qe,Zv,A,Bq,Bq,Uc (ZLO y),Xd]
 ·show ZIt (l,0) (l,0) (l.length:Int)=_
  unfold ZIt;dsimp only;rw[Ue (Ui _)]
end Go.Proofs.YtjkccpcebpeadaaGreatDoor
