/-
  Plain laws: links of arcs.
-/
import Derived.Test.YtoijdogpgpbddaaGreatDoorLA
namespace Go.Proofs.YtoijdogpgpbddaaGreatDoor
set_option linter.unusedVariables false
set_option linter.unusedSimpArgs false
open Go Go.Sx
def Vs (f t a b kind i:Int):Zt:=(2*f+a,2*t+b,kind,i,())
def trs (a:ZK):List (Int×Int×Unit) :=
 if Gf a=2 then[(0,0,()),(0,1,())]else if Gf a=3 then[(1,0,()),(1,1,())]else
  if Gf a=1 then(if GH a=1 then[(0,0,()),(1,1,())]else if GH a=2 then[(0,1,()),(1,0,())]else[(0,0,()),(0,1,()),(1,0,()),(1,1,())])else[]
theorem Zrn (a:ZK):VU a=some (trs a):=by
 unfold VU trs;repeat' split
 all_goals rfl
def Zo8 (a:ZK) (f t i:Int):List Zt:=(trs a).map (λp=>Vs f t p.1 p.2.1 1 i)
variable (l:List Zt) (f t a:Int)
theorem ZvO (b kind i:Int) (q:l.length<=1048576) (c:0<=f/\f<=1048576:=by omega) (r:0<=t/\t<=1048576:=by omega) (h:0<=a/\a<=1:=by omega) (H:0<=b/\b<=1:=by omega) :
  ZbE l f t a b kind i=some (l++[Vs f t a b kind i]):=by
 unfold ZbE Vs;rw[Zk (by simp;omega),QR (n:=2*f),QR (n:=2*t),QR (n:=2*f+a),QR (n:=2*t+b)]
def ZEF (c:ZK) (a b:Int):Bool :=
 if Gf c=1 then(if GH c=3 then true else(decide (GH c=1)==decide (a=b)))else if Gf c=2 then decide (a=0)else if Gf c=3 then decide (a=1)else false
def Znl (c:ZK) (f t i a b:Int):List Zt:=if ZEF c a b=true then[Vs f t a b 1 i]else[]
variable (c:ZK)
theorem Zwo (f t i a b:Int) (l:List Zt) (q:l.length<=1048576) (e:0<=f/\f<=1048576) (r:0<=t/\t<=1048576) (h:0<=a/\a<=1) (H:0<=b/\b<=1:=by omega) :
  Zcm c f t i a l b=some (.inl (l++Znl c f t i a b,b+1,())):=by
 unfold Zcm Znl ZEF;rw[QP,ZvO l f t a b 1 i q e r h H,QR (n:=b+1)];simp only[Bq];by_cases d:Gf c=1
 ·simp only[d,Ui]
  by_cases s:GH c=3
  ·simp only[s,Ui]
  ·simp only[s,Uh]
   split
   ·rfl
   ·rw[Un]
 by_cases k:Gf c=2
 ·simp only[k,Ui,Int.reduceEq,Uh,Ul]
  split
  ·rfl
  ·rw[Un]
 by_cases R:Gf c=3
 ·simp only[R,Ui,Int.reduceEq,Uh,Ul]
  split
  ·rfl
  ·rw[Un]
 ·simp only[d,k,R,Uh,Ka,Un]
theorem Zpd (f t i a b:Int):(Znl c f t i a b).length<=1:=by
 unfold Znl;split<;>simp
theorem ZtL (f t i a:Int) (l:List Zt) (q:l.length<=1048000) (H:0<=f/\f<=1048576) (r:0<=t/\t<=1048576) (h:0<=a/\a<=1:=by omega) :
  ZA (λv=>Zcm c f t i a v.1 v.2.1) (l,(0:Int),())=some (.inl (l++Znl c f t i a 0++Znl c f t i a 1,a+1,())):=by
 have d:=Zpd c f t i a 0;have b:=Zpd c f t i a 1;rw[Xk (v':=(l++Znl c f t i a 0,(0:Int)+1,())) (Zwo c f t i a 0 l (by omega) H r h),
  Xk (v':=(l++Znl c f t i a 0++Znl c f t i a 1,(0:Int)+1+1,())) (Zwo c f t i a (0+1) _ (by rw[Ug];omega) H r h),Y1]
 simp only[Zcm];rw[QQ,QR (n:=a+1)]
theorem ZBU (f t a:Int) (q:Gf c=1->1<=GH c/\GH c<=3):Znl c f t a 0 0++Znl c f t a 0 1++(Znl c f t a 1 0++Znl c f t a 1 1)=Zo8 c f t a:=by
 unfold Znl ZEF Zo8 trs;by_cases d:Gf c=1
 ·have h:=q d
  by_cases s:GH c=1
  ·simp[d,s]
  by_cases S:GH c=2
  ·simp[d,S]
  ·have b:GH c=3:=by omega
   simp[d,b]
 by_cases k:Gf c=2
 ·simp[k]
 by_cases R:Gf c=3
 ·simp[R]
 ·simp[d,k,R]
theorem Zri (f t a:Int) (e:l.length<=1047000) (h:0<=f/\f<=1048576) (H:0<=t/\t<=1048576) (q:Gf c=1->1<=GH c/\GH c<=3) :
  Zkc l c f t a=some (l++Zo8 c f t a):=by
 have d:=Zpd c f t a 0 0;have b:=Zpd c f t a 0 1;unfold Zkc;have s0:ZaF c f t a l 0=some (.inl (l++Znl c f t a 0 0++Znl c f t a 0 1,0+1,())):=by
  unfold ZaF;rw[QP,ZtL c f t a 0 l (by omega) h H]
 have s:ZaF c f t a (l++Znl c f t a 0 0++Znl c f t a 0 1) 1=some (.inl (l++Znl c f t a 0 0++Znl c f t a 0 1++Znl c f t a 1 0++Znl c f t a 1 1,1+1,())):=by
  unfold ZaF;rw[QP,ZtL c f t a 1 _ (by simp only[Ug];omega) h H]
 rw[Xk (v':=(l++Znl c f t a 0 0++Znl c f t a 0 1,(1:Int),())) s0,Xk (v':=(l++Znl c f t a 0 0++Znl c f t a 0 1++Znl c f t a 1 0++Znl c f t a 1 1,(2:Int),())) s,Y1 (r:=l++Zo8 c f t a)];simp only[ZaF];rw[QQ,<-ZBU c f t a q];simp only[Uj]
def ZxG (c:Zo) (f:Int):List Zt:=cat (λi a=>Zo8 a (f+Gs a) (f+Gw a) (i:Int)) 0 (Gp c)
theorem Zts (a:ZK):(trs a).length<=4:=by
 unfold trs;repeat' split
 all_goals simp
variable {b:Za} {x:Zd}
theorem Zjg (h:Z7 b) (B:x∈K3 (K2 b)) (f:Int) (F:0<=f/\f<=1000000) :
  ∃c,(Gd (K6 b))[(Gr x).toNat]?=some c/\ZlA c/\VW b x f=some (ZxG c f):=by
 obtain⟨t,⟨c,H,u⟩,_⟩:=h.ok.1.2.2.1 x B;have z:=h.ok.1.1.2.1 c (Ud H);have E:=z.2.2.1.1;refine⟨c,H,z,?_⟩;unfold VW;rw[Yr t.1 H,Bq];refine Qp (l:=Gp c) (λi a=>Zo8 a (f+Gs a) (f+Gw a) (i:Int)) [] (λk a q J=>?_) ?_
 ·have o:=(z.2.2.1.2 k a q).1
  have w:=z.2.1.2.1;have s:=ZbK (f:=λi a=>Zo8 a (f+Gs a) (f+Gw a) (i:Int)) (c:=4) (l:=(Gp c).take k) (m:=0) (λi a _=>by simp only[Zo8,UW];exact Zts a);rw[Uk]at s;simp only[Uw,QI,show(k:Int)<((Gp c).length:Int)from by omega,Ui,Zp,q,Zrn,Bq];generalize cat (λi a=>Zo8 a (f+Gs a) (f+Gw a) (i:Int)) 0 ((Gp c).take k)=A at s;have y:=Zts a;have d:∀p∈trs a,(0<=p.1/\p.1<=1)/\(0<=p.2.1/\p.2.1<=1):=by
   intro p g;unfold trs at g;repeat' split at g
   all_goals (simp only[UD,UZ,Ks]at g)
   all_goals first|(rcases g with rfl|rfl|rfl|rfl<;>simp)|(rcases g with rfl|rfl<;>simp)|exact g.elim
  have C:=o.1;have D:=o.2.1;refine(Qp (l:=trs a) (ρ:=(List Zt×Int×Unit)⊕List Zt) (λ_ p=>[Vs (f+Gs a) (f+Gw a) p.1 p.2.1 1 (k:Int)]) A (good:=.inl (A++Zo8 a (f+Gs a) (f+Gw a) (k:Int),((k+1:Nat):Int),())) (λj p g G=>?_) ?_)
  ·have v:=d p (Ud g)
   have T:=ZbK (f:=λ(_:Nat) (p:Int×Int×Unit)=>[Vs (f+Gs a) (f+Gw a) p.1 p.2.1 1 (k:Int)]) (c:=1) (l:=(trs a).take j) (m:=0) (λ_ _ _=>by simp);rw[Uk]at T;simp only[X3,show(j:Int)<((trs a).length:Int)from by omega,Ui,Zp,g,Bq];rw[Zk (by rw[Ug,Uz];omega),Y3,QR (n:=f+Gs a),QR (n:=f+Gw a),QR (n:=2*(f+Gs a)),QR (n:=2*(f+Gw a)),QR (n:=2*(f+Gs a)+p.1),QR (n:=2*(f+Gw a)+p.2.1)];rfl
  ·have e:cat (λ(_:Nat) (p:Int×Int×Unit)=>[Vs (f+Gs a) (f+Gw a) p.1 p.2.1 1 (k:Int)]) 0 (trs a)=Zo8 a (f+Gs a) (f+Gw a) (k:Int):=by
    unfold Zo8;generalize trs a=l;have:∀(m:Nat),cat (λ(_:Nat) (p:Int×Int×Unit)=>[Vs (f+Gs a) (f+Gw a) p.1 p.2.1 1 (k:Int)]) m l=l.map (λp=>Vs (f+Gs a) (f+Gw a) p.1 p.2.1 1 (k:Int)):=by
     induction l with
     |nil=>intro m;rfl
     |cons p r I=>intro m;simp[cat,I]
    exact this 0
   simp only[X3,Uf,Uh,e];rw[Y3]
 ·simp only[Uw,QI,Uf,Uh];rfl
theorem ZqE (d:Zb) (i j:Int) (h:Few d):JL d i j=some (Jw (λx:Pl=>decide (x.1=i)&&decide (x.2.1=j)) (Zg d)):=by
 have H:=ZQ h;unfold JL;rw[ZP d h,Bq];refine Q0 (out:=λi=>i) (show Len (Zg d) by show List.length _<=_;omega) (λk x l=>?_) ?_
 ·have a:=(Ua.1 l).1
  simp only[ZbA,show(k:Int)<((Zg d).length:Int)from by omega,Ui,Zp,l,Bq,Ur,Ul];grind
 ·simp only[ZbA,Uf,Uh]
theorem Zse {α β:Type} {g:Nat->α->β}:∀{l:List α} {m j:Nat},(cat (λj n=>[g j n]) m l)[j]?=(l[j]?).map (g (m+j))
 |[],m,j=>by simp[cat]
 |x::r,m,0=>by simp[cat]
 |x::r,m,j+1=>by
  simp only[cat,U3,Uw,Kg];rw[Zse (l:=r) (m:=m+1) (j:=j),show m+1+j=m+(j+1) by omega]
theorem Zl0 {α β:Type} {g:Nat->α->β}:∀{l:List α} {m:Nat},(cat (λj n=>[g j n]) m l).length=l.length
 |[],m=>rfl
 |x::r,m=>by simp[cat,Zl0 (l:=r)]
theorem ZhH (i:Nat) (x:Zd):(YW i x).length=(Gc x).length:=by unfold YW;rw[Zl0]
def fst (d:Zb) (i:Nat):Nat:=(cat YW 0 ((K3 d).take i)).length
variable {d:Zb} {i:Nat}
theorem Zsv (l:(K3 d)[i]?=some x):fst d (i+1)=fst d i+(Gc x).length:=by
 unfold fst;rw[Zdk l,Ug,ZhH]
theorem ZkX (h:(K3 d)[i]?=some x):∃B,Zg d=cat YW 0 ((K3 d).take i)++(YW i x++B):=by
 have l:=Ua.1 h;have e:K3 d=(K3 d).take i++(x::(K3 d).drop (i+1)):=by
  rw[<-l.2,<-Kw l.1,KH]
 refine⟨cat YW (i+1) ((K3 d).drop (i+1))++cat Zcd 0 (Ge d),?_⟩;unfold Zg
 conv=>lhs;rw[e]
 rw[Zc4];have q:((K3 d).take i).length=i:=by grind
 rw[q,Us];simp only[cat,Uj]
theorem ZwH (h:Few d) {j:Nat} (u:(K3 d)[i]?=some x) (f:j<(Gc x).length:=by omega) :
  JL d (i:Int) (j:Int)=some ((fst d i:Int)+(j:Int)):=by
 rw[ZqE d _ _ h];obtain⟨B,e⟩:=ZkX u;congr 1;have v:(Gc x)[j]?=some (Gc x)[j]:=Ub f;have t:∀(q:Nat) (y:Pl),(YW i x)[q]?=some y->y.1=(i:Int)/\y.2.1=(q:Int):=by
  intro q y a;unfold YW at a;rw[Zse,Us]at a;grind
 have b:∃y,(YW i x)[j]?=some y:=⟨_,Ub (by rw[ZhH];exact f)⟩;obtain⟨y,a⟩:=b;have L:=t j y a;have:=Zou (p:=λx:Pl=>decide (x.1=(i:Int))&&decide (x.2.1=(j:Int))) (l:=Zg d) (k:=fst d i+j) (x:=y)
  (by
   rw[e,UE (by unfold fst;omega),show fst d i+j-(cat YW 0 ((K3 d).take i)).length=j by unfold fst;omega,Ut (by grind)];exact a)
  (by simp[L.1,L.2])
  (λq z r T=>by
   rw[e]at T;by_cases c:q<(cat YW 0 ((K3 d).take i)).length
   ·rw[Ut c]at T
    obtain⟨S,X,g,H⟩:=XQ.1 (Ud T);have m:S<i:=by
     grind
    rw[Us]at H;have:z.1=(S:Int):=by
     unfold YW at H;obtain⟨J,n,_,o⟩:=XQ.1 H;grind
    grind
   ·have s:q-(cat YW 0 ((K3 d).take i)).length<j:=by unfold fst at r;omega
    grind)
 rw[this];omega
def Zie (b:Za) (i:Nat) (x:Zd):List Zt:=match (Gd (K6 b))[(Gr x).toNat]? with
 |some c=>ZxG c (fst (K2 b) i:Int)
 |none=>[]
def Zif (b:Za):List Zt:=cat (Zie b) 0 (K3 (K2 b))
theorem ZtM (c:Zo) (f:Int) (h:(Gp c).length<=8):(ZxG c f).length<=32:=by
 have:=ZbK (f:=λi a=>Zo8 a (f+Gs a) (f+Gw a) (i:Int)) (c:=4) (l:=Gp c) (m:=0) (λi a _=>by simp only[Zo8,UW];exact Zts a);unfold ZxG;omega
theorem ZDS (h:Few d) (i:Nat):fst d i<=70:=Zfo h i
theorem ZAb (h:Z7 b) (i:Nat) (x:Zd) (l:x∈K3 (K2 b)):(Zie b i x).length<=32:=by
 obtain⟨c,d,f,_⟩:=Zjg h l 0 (by omega);unfold Zie;rw[d];exact ZtM c _ f.2.2.1.1
theorem ZjH (h:Z7 b) (k:Nat):(cat (Zie b) 0 ((K3 (K2 b)).take k)).length<=448:=by
 have d:=h.ok.1.few.insts;have:=ZbK (f:=Zie b) (c:=32) (l:=(K3 (K2 b)).take k) (m:=0) (λi x H=>ZAb h i x (KJ H));grind
theorem ZuI (h:Z7 b) (p:(K3 (K2 b))[i]?=some x) {c:Zo} (t:(Gd (K6 b))[(Gr x).toNat]?=some c) (A:List Zt) (K:A.length<=100000:=by omega) :
  ZA (λv=>ZcO b (i:Int) c v.1 v.2.1) (A,(0:Int),())=some (.inl (A++ZxG c (fst (K2 b) i:Int),((i+1:Nat):Int),())):=by
 have n:=h.ok.1.few;have M:=(Ua.1 p).1;have y:=n.insts;have q:=Ud p;obtain⟨_,⟨L,H,C⟩,_⟩:=h.ok.1.2.2.1 x q;rw[t]at H;injection H with H;subst H
 have z:=h.ok.1.1.2.1 c (Ud t);have J:=z.2.2.1.1;have F:=z.2.1.2.1;have B:=ZDS n i;refine Qp (l:=Gp c) (λk a=>Zo8 a ((fst (K2 b) i:Int)+Gs a) ((fst (K2 b) i:Int)+Gw a) (k:Int)) A (λk a g N=>?_) ?_
 ·have o:=(z.2.2.1.2 k a g).1
  have w:=ZbK (f:=λk a=>Zo8 a ((fst (K2 b) i:Int)+Gs a) ((fst (K2 b) i:Int)+Gw a) (k:Int)) (c:=4) (l:=(Gp c).take k) (m:=0) (λi a _=>by simp only[Zo8,UW];exact Zts a);rw[Uk]at w;simp only[ZcO,show(k:Int)<((Gp c).length:Int)from by omega,Ui,Zp,g,Bq];generalize cat (λk a=>Zo8 a ((fst (K2 b) i:Int)+Gs a) ((fst (K2 b) i:Int)+Gw a) (k:Int)) 0 ((Gp c).take k)=r at w;have G:=o.1;have I:=o.2.1;by_cases d:Gf a<=3
  ·have E:=ZwH n p (j:=(Gs a).toNat)
   have s:=ZwH n p (j:=(Gw a).toNat);rw[show ((Gs a).toNat:Int)=Gs a by omega] at E;rw[show ((Gw a).toNat:Int)=Gw a by omega] at s;rw[Uc d,E,Bq,s,Bq,Zri _ a _ _ _ (by grind) (by omega) (by omega) (λD=>by
    rcases o.2.2 with u|u|u
    all_goals grind),Bq,Y3]
  ·rw[Ue d,Y3]
   have e:Zo8 a ((fst (K2 b) i:Int)+Gs a) ((fst (K2 b) i:Int)+Gw a) (k:Int)=[]:=by
    unfold Zo8 trs;grind
   grind
 ·simp only[ZcO,Uf,Uh]
  rw[Y3];rfl
def Zu2 (d:Zb) (n:Int):List Zt:=cat (λj s=>[Vs (Ziu d n) s 0 0 2 (j:Int),Vs (Ziu d n) s 1 1 2 (j:Int)]) 0 (Xx d n)
theorem ZCX (h:Few d) (n:Int):(Zu2 d n).length<=156:=by
 have H:=ZbK (f:=λj s=>[Vs (Ziu d n) s 0 0 2 (j:Int),Vs (Ziu d n) s 1 1 2 (j:Int)]) (c:=2) (l:=Xx d n) (m:=0) (λ_ _ _=>by simp);have a:=ZaN n (Zg d) 0;have g:=ZQ h;unfold Zu2;have:(Xx d n).length<=78:=by unfold Xx;omega
 omega
theorem ZtR {α β γ:Type} (f:Nat->List γ):∀(l:List α) (r:List β) (m:Nat),l.length=r.length->cat (λk _=>f k) m l=cat (λk _=>f k) m r
 |[],[],_,_=>rfl
 |[],_::_,_,h=>by simp at h
 |_::_,[],_,h=>by simp at h
 |_::l,_::r,m,h=>by simp only[cat];rw[ZtR f l r (m+1) (by simpa using h)]
def ZmX (b:Za):List Zt:=cat (λv _=>Zu2 (K2 b) (v:Int)) 0 (K4 b)
def Zz (b:Za):List Zt:=Zif b++ZmX b
variable {α:Type}
theorem ZlZ (h:Z7 b) (l:List α):(cat (λv _=>Zu2 (K2 b) (v:Int)) 0 l).length<=156*l.length :=
 ZbK (f:=λv _=>Zu2 (K2 b) (v:Int)) (c:=156) (l:=l) (m:=0) (λv _ _=>ZCX h.ok.1.few _)
theorem ZjS (h:Z7 b):(Zif b).length<=448:=by
 have:=ZjH h (K3 (K2 b)).length;rw[Uq]at this;exact this
theorem Zww (h:Z7 b) {v:Nat} (a:v<(K5 (K2 b)).length):0<=Ziu (K2 b) (v:Int)/\Ziu (K2 b) (v:Int)<((Zg (K2 b)).length:Int):=by
 obtain⟨q,y,H,_,e,_⟩:=Zos h.ok.1 (Vi h.sm).2.1 a;grind
theorem Zc2 (h:Z7 b):ZbD b=some (Zz b):=by
 have d:=h.ok.1.few;have p:=d.insts;have r:=h.ok.1.2.1.2.1;have w:=ZQ d;unfold ZbD;refine Qp (l:=K3 (K2 b)) (Zie b) [] (λi x g D=>?_) ?_
 ·have q:=Ud g
  obtain⟨u,⟨c,H,z⟩,_⟩:=h.ok.1.2.2.1 x q;have n:=ZjH h i;simp only[Uw,Zfh,show(i:Int)<((K3 (K2 b)).length:Int)from by omega,Ui,Zp,g,Bq,Yr u.1 H];rw[ZuI h g H _];have e:Zie b i x=ZxG c (fst (K2 b) i:Int):=by unfold Zie;rw[H]
  rw[e]
 ·have K:=ZjS h
  simp only[Uw,Zfh,Uf,Uh];refine Qp (l:=K5 (K2 b)) (λv _=>Zu2 (K2 b) (v:Int)) (Zif b) (ρ:=(List Zt×Int×Unit)⊕List Zt) (good:=.inr (Zz b)) (λv s G B=>?_) ?_
  ·have V:=Zww h B
   have n:=ZlZ h ((K5 (K2 b)).take v);rw[Uk]at n;have E:Zdb (K2 b) (v:Int)=some (Ziu (K2 b) (v:Int)):=Zjx _ _ d;simp only[Zfg,show(v:Int)<((K5 (K2 b)).length:Int)from by omega,Ui,E,Bq,Xn _ _ d];have A:(Xx (K2 b) (v:Int)).length<=78:=by
    have:=ZaN (v:Int) (Zg (K2 b)) 0;unfold Xx;omega
   generalize k:Zif b++cat (λv _=>Zu2 (K2 b) (v:Int)) 0 ((K5 (K2 b)).take v)=a;have t:a.length<=10000:=by grind
   refine Qp (l:=Xx (K2 b) (v:Int)) (λj s=>[Vs (Ziu (K2 b) (v:Int)) s 0 0 2 (j:Int),Vs (Ziu (K2 b) (v:Int)) s 1 1 2 (j:Int)]) a (λj y o F=>?_) ?_
   ·have C:=ZkS (Ud o)
    have T:=ZbK (f:=λj s=>[Vs (Ziu (K2 b) (v:Int)) s 0 0 2 (j:Int),Vs (Ziu (K2 b) (v:Int)) s 1 1 2 (j:Int)]) (c:=2) (l:=(Xx (K2 b) (v:Int)).take j) (m:=0) (λ_ _ _=>by simp);rw[Uk]at T;simp only[Zff,show(j:Int)<((Xx (K2 b) (v:Int)).length:Int)from by omega,Ui,Zp,o,Bq];rw[ZvO _ _ _ _ _ _ _ (by grind),Bq,ZvO _ _ _ _ _ _ _ (by grind),Bq,Y3];grind
   ·simp only[Zff,Uf,Uh]
    rw[Y3];rfl
  ·simp only[Zfg,Uf,Uh]
   rw[ZtR (λv=>Zu2 (K2 b) (v:Int)) (K5 (K2 b)) (K4 b) 0 h.ok.2.1.symm];rfl
structure Stand (d:Zb) (n k:Nat) (l0:List Int) (l1:List (List Int)):Prop where
 n0:l0.length=n
 n1:l1.length=n
 drv:∀(v q:Nat) (y:Pl),v<n->q<k->(Zg d)[q]?=some y->Zu0 (v:Int) y=true->l0[v]?=some (q:Int)
 snk:∀(v:Nat),v<n->l1[v]?=some (cat (Qu (v:Int)) 0 ((Zg d).take k))
noncomputable def ldF (b:Za) (v:Nat):Int:=((Xd b (v:Int)).bind (λr=>r[0]?)).getD 0
noncomputable def edF (b:Za) (v:Nat):List Int:=(Qi b (v:Int)).getD []
theorem ZvJ (h:Z7 b):∃v,Zar b=some v/\ZW.Zg v=Zg (K2 b)/\G0 v=b/\ZW.links v=Zz b/\ZW.loads v=(List.range (K4 b).length).map (ldF b)/\ZW.Zjf v=(List.range (K4 b).length).map (edF b)/\ZW.extras v=[]:=by
 have M:=h.ok.1;have O:=M.few;have Y:=(Vi h.sm).2.1;have e0:=ZQ O;have b9:=O.insts;have e4:=h.ok.2.1;have d0:=M.2.1.2.1;have a2:=ZjS h;unfold Zar;rw[ZM _ O,Bq];refine ZfV (l:=K3 (K2 b)) (λk v=>v.1=(fst (K2 b) k:Int)/\v.2.1=(k:Int)/\v.2.2.1=cat (Zie b) 0 ((K3 (K2 b)).take k)) _ ⟨rfl,rfl,rfl⟩ ?_ ?_
 ·rintro k x ⟨n,i,c,⟨⟩⟩ o hk ⟨C,H,hc⟩
  simp only at C H hc;subst H;subst C;subst hc;have d1:=ZDS O k;have hl:=ZjH h k;obtain⟨c,h1,h2,h3⟩:=Zjg h (Ud o) (fst (K2 b) k:Int) (by omega);have d3:=ZtM c (fst (K2 b) k:Int) h2.2.2.1.1;have d9:=O.nets x (Ud o);simp only[Zbl,show(k:Int)<((K3 (K2 b)).length:Int)from by omega,Ui,Zp,o,h3,Bq,VZ];rw[Ra];refine⟨_,rfl,?_,?_,?_⟩
  ·simp only;rw[QR,Zsv o];omega
  ·simp only;rw[Y3]
  ·simp only
   rw[Zdk o];congr 1;unfold Zie;rw[h1]
 ·rintro⟨n,i,c0,⟨⟩⟩ ⟨_,H,u⟩
  simp only at H u;subst H;rw[Uq]at u;have b0:c0.length<=448:=by rw[u];exact a2
  simp only[Zbl,Uf,Uh];rw[Ra,Ra,Ra,Ra,Ra];obtain⟨r,W,R,rfl,X⟩:=ZfV (l:=Zg (K2 b)) (ρ:=(Int×Int×List Zt×Unit)⊕ZW) (step:=λv=>VJ b (Zg (K2 b)) c0 v.1 v.2.1 v.2.2.1) (v:=((0:Int),List.replicate (Int.toNat (↑(List.length (K4 b)):Int)) (0:Int),List.replicate (Int.toNat (↑(List.length (K4 b)):Int)) (([]:List Int)),()))
   (λk v=>v.1=(k:Int)/\Stand (K2 b) (K4 b).length k v.2.1 v.2.2.1)
   (λr=>∃R,r=.inr R/\ZW.Zg R=Zg (K2 b)/\G0 R=b/\ZW.links R=Zz b/\ZW.loads R=(List.range (K4 b).length).map (ldF b)/\ZW.Zjf R=(List.range (K4 b).length).map (edF b)/\ZW.extras R=[])
   ⟨rfl,by simp,by simp,λv q y _ hq=>by omega,λv A=>by
    rw[Kt];simp only[cat];grind⟩
   (by
    rintro k x ⟨i,l0,L,⟨⟩⟩ o hk ⟨H,g⟩;simp only at H g;subst H;have C:=XP M (Ud o);have d8:=C.2;have b2:0<=x.2.2.1:=C.1;have e3:ZL.net x=x.2.2.1:=rfl;simp only[VJ,show(k:Int)<((Zg (K2 b)).length:Int)from by omega,Ui,Zp,o,Bq];have z:=g.n0;have Q:=g.n1;obtain⟨q,a8,_⟩:=Zit (l:=l0) C.1;obtain⟨p,S,_⟩:=Zit (l:=L) C.1;have V:p=cat (Qu x.2.2.1) 0 ((Zg (K2 b)).take k):=by
     have e:=g.snk (x.2.2.1).toNat (by omega);have e2:L[(x.2.2.1).toNat]?=some p:=by
      have:=S;unfold atI at this;grind
     grind
    have b5:p.length<=78:=by
     rw[V];have:=ZaN x.2.2.1 ((Zg (K2 b)).take k) 0;grind
    by_cases hd:x.2.2.2.1=true
    ·rw[Uc hd,show atI l0 (ZL.net x)=some q from a8,Bq]
     refine⟨_,rfl,by simp only;rw[Y3],?_,?_,?_,?_⟩
     ·simp[z]
     ·exact Q
     ·intro v Z y A a6 d a
      simp only;rw[UR];by_cases t:(ZL.net x).toNat=v
      ·rw[Uc t,QP]
       obtain⟨q',_,_,_,_,b6⟩:=Zos M Y (v:=v);have e5:Zu0 (v:Int) x=true:=by
        unfold Zu0;grind
       grind
      ·rw[Ue t]
       have a7:Z≠k:=by
        intro e;subst e;rw[o]at d;injection d with d
        subst d;unfold Zu0 at a;grind
       exact g.drv v Z y A (by omega) d a
     ·intro v A
      simp only;rw[g.snk v A,Zdk o];congr 1;have:Qu (v:Int) k x=[]:=by
       unfold Qu;grind
      grind
    ·rw[Ue hd,show atI L (ZL.net x)=some p from S,Bq,Zk (by simp;omega)]
     refine⟨_,rfl,by simp only;rw[Y3],z,?_,?_,?_⟩
     ·simp[Q]
     ·intro v Z y A a6 d a
      have a7:Z≠k:=by
       intro e;subst e;rw[o]at d;injection d with d
       subst d;unfold Zu0 at a;grind
      exact g.drv v Z y A (by omega) d a
     ·intro v A
      simp only;rw[UR,Zdk o];by_cases t:(ZL.net x).toNat=v
      ·have E:x.2.2.1=(v:Int):=by grind
       rw[Uc t,QP,V,E];unfold Qu;grind
      ·have E:¬x.2.2.1=(v:Int):=λe=>t (by grind)
       rw[Ue t,g.snk v A];have:Qu (v:Int) k x=[]:=by unfold Qu;rw[Ue E]
       grind)
   (by
    rintro⟨i,l0,L,⟨⟩⟩ ⟨H,g⟩;simp only at H g;subst H;simp only[VJ,Uf,Uh];have d2:=g.n0;obtain⟨r,W,R,rfl,X⟩:=ZfV (l:=K4 b) (ρ:=(Int×List Int×List (List Int)×Unit)⊕((Int×Int×List Zt×Unit)⊕ZW)) (step:=λv=>VI b (Zg (K2 b)) l0 v.1 v.2.1 v.2.2.1 v.2.2.2.1 v.2.2.2.2.1) (v:=((0:Int),([]:List Int),([]:List (List Int)),c0,L,()))
     (λk v=>v.1=(k:Int)/\v.2.1=(List.range k).map (ldF b)/\v.2.2.1=(List.range k).map (edF b)/\v.2.2.2.1=c0++cat (λv _=>Zu2 (K2 b) (v:Int)) 0 ((K4 b).take k)/\v.2.2.2.2.1=L)
     (λr=>∃R,r=.inr (.inr R)/\ZW.Zg R=Zg (K2 b)/\G0 R=b/\ZW.links R=Zz b/\ZW.loads R=(List.range (K4 b).length).map (ldF b)/\ZW.Zjf R=(List.range (K4 b).length).map (edF b)/\ZW.extras R=[])
     ⟨rfl,rfl,rfl,by simp[cat],rfl⟩
     (by
      rintro k w ⟨i,c1,c2,I,l2,⟨⟩⟩ hw hk ⟨H,J,K,G,g4⟩;simp only at H J K G g4;subst H;subst g4;have d4:I.length<=5200:=by
       have:=ZlZ h ((K4 b).take k);grind
      obtain⟨nl,a5,b3⟩:=ZjX h hw;obtain⟨ed,a1,b1⟩:=ZkJ h hw;have b4:=(h.ok.2.2 k w hw).1.1;have b7:c1.length=k:=by rw[J];simp
      have b8:c2.length=k:=by rw[K];simp
      have a4:ldF b k=nl[0]:=by
       unfold ldF;grind
      have N:edF b k=ed:=by
       unfold edF;grind
      have z:atI nl (0:Int)=some nl[0]:=(show nl[0]?=some nl[0]from Ub (by omega));have T:=g.snk k hk;rw[Uq]at T;obtain⟨D,dy,B,a,a0,_⟩:=Zos M Y (v:=k);have a3:=g.drv k D dy hk (Ua.1 B).1 B a;have d7:=(Ua.1 B).1;have P:l2[k]?=some (Xx (K2 b) (k:Int)):=T;have e1:(Xx (K2 b) (k:Int)).length<=78:=by
       have:=ZaN (k:Int) (Zg (K2 b)) 0;unfold Xx;omega
      simp only[VI,show(k:Int)<((K4 b).length:Int)from by omega,Ui,a5,z,a1,Bq,Zp,P];rw[Zk (by simp;omega),Zk (by simp;omega)];obtain⟨r,W,R,rfl,X⟩:=ZfV (l:=Xx (K2 b) (k:Int)) (ρ:=(Int×List Int×List (List Int)×List Zt×List (List Int)×Unit)⊕((Int×List Int×List (List Int)×Unit)⊕((Int×Int×List Zt×Unit)⊕ZW))) (step:=λv=>VH l0 (k:Int) c1 c2 l2 nl[0] ed (Xx (K2 b) (k:Int)) v.1 v.2.1) (v:=((0:Int),I,()))
       (λm v=>v.1=(m:Int)/\v.2.1=I++cat (λj s=>[Vs (Ziu (K2 b) (k:Int)) s 0 0 2 (j:Int),Vs (Ziu (K2 b) (k:Int)) s 1 1 2 (j:Int)]) 0 ((Xx (K2 b) (k:Int)).take m))
       (λr=>∃R,r=.inl R/\R.1=((k+1:Nat):Int)/\R.2.1=(List.range (k+1)).map (ldF b)/\R.2.2.1=(List.range (k+1)).map (edF b)/\R.2.2.2.1=c0++cat (λv _=>Zu2 (K2 b) (v:Int)) 0 ((K4 b).take (k+1))/\R.2.2.2.2.1=l2)
       ⟨rfl,by simp[cat]⟩
       (by
        rintro m y ⟨i,U,⟨⟩⟩ d hm ⟨H,F⟩;simp only at H F;subst H;have e6:=ZkS (Ud d);have d5:U.length<=6000:=by
         have:=ZbK (f:=λj s=>[Vs (Ziu (K2 b) (k:Int)) s 0 0 2 (j:Int),Vs (Ziu (K2 b) (k:Int)) s 1 1 2 (j:Int)]) (c:=2) (l:=(Xx (K2 b) (k:Int)).take m) (m:=0) (λ_ _ _=>by simp);grind
        simp only[VH,show(m:Int)<((Xx (K2 b) (k:Int)).length:Int)from by omega,Ui,Zp,d,Bq];have st:∀(j:Nat) (c5:List Zt),j<2->c5.length<=6100->QT l0 (k:Int) (m:Int) y (j:Int) c5=some (.inl (((j+1:Nat):Int),c5++[Vs (D:Int) y (j:Int) (j:Int) 2 (m:Int)],())):=by
         intro j c5 hj d6;simp only[QT,show(j:Int)<(2:Int)from by omega,Ui,Zp,a3,Bq];rw[Zk (by simp;omega),QR (n:=2*(D:Int)),QR (n:=2*(D:Int)+(j:Int)),QR (n:=2*y),QR (n:=2*y+(j:Int)),Y3];rfl
        have s0:=st 0 U (by omega) (by omega);have s1:=st 1 (U++[Vs (D:Int) y ((0:Nat):Int) ((0:Nat):Int) 2 (m:Int)]) (by omega) (by simp;omega);have a9:ZA (λv=>QT l0 (k:Int) (m:Int) y v.1 v.2.1) ((0:Int),U,())=some (.inl (((m+1:Nat):Int),U++[Vs (D:Int) y ((0:Nat):Int) ((0:Nat):Int) 2 (m:Int)]++[Vs (D:Int) y ((1:Nat):Int) ((1:Nat):Int) 2 (m:Int)],())):=by
         rw[Xk (v':=(((0+1:Nat):Int),U++[Vs (D:Int) y ((0:Nat):Int) ((0:Nat):Int) 2 (m:Int)],())) s0,Xk (v':=(((1+1:Nat):Int),U++[Vs (D:Int) y ((0:Nat):Int) ((0:Nat):Int) 2 (m:Int)]++[Vs (D:Int) y ((1:Nat):Int) ((1:Nat):Int) 2 (m:Int)],())) s1,Y1];simp only[QT];rw[QQ,Y3]
        refine ⟨_,a9,rfl,?_⟩;simp only;rw[F,Zdk d,a0];simp only[Uj,U3,Uw,Int.natCast_zero,Int.natCast_one])
       (by
        rintro⟨i,U,⟨⟩⟩ ⟨H,F⟩;simp only at H F;subst H;rw[Uq]at F;simp only[VH,Uf,Uh];refine⟨_,rfl,_,rfl,by simp only;rw[Y3],by simp only;rw[J,List.range_succ,Kd,List.map_singleton,a4],by simp only;rw[K,List.range_succ,Kd,List.map_singleton,N],?_,?_⟩
        ·simp only
         rw[F,G,Zdk hw,Uj];rfl
        ·simp only
         apply Uy;grind)
      grind)
     (by
      rintro ⟨i,c1,c2,I,l2,⟨⟩⟩ ⟨H,J,K,G,g4⟩;simp only at H G;subst H;rw[Uq] at G;simp only[VI,Uf,Uh];refine ⟨_,rfl,_,rfl,rfl,rfl,?_,J,K,rfl⟩;show I=Zz b;rw[G,u];rfl)
    grind)
  grind
def Zgp (n:Nat) (br:List Int):List Bool:=(List.range n).map (λ(k:Nat)=>!decide ((k:Int)∈br))
theorem ZhW (n:Nat) (br:List Int):(Zgp n br).length=n:=by simp[Zgp]
variable (l:List Int)
theorem Zi8 (x:Int) (q:l.length<=1048576:=by omega):ZgN l x=some (decide (x∈l)):=by
 unfold ZgN;rw[Q0 (l:=l) (p:=λy=>decide (y=x)) (out:=λi=>decide (0<=i)) (show List.length _<=_ by omega) (λk y h=>by
  have H:=(Ua.1 h).1;simp only[ZgO,show (k:Int)<(l.length:Int) from by omega,Ui,Zp,h,Bq,Ul];split;all_goals simp_all) (by simp only[ZgO,Uf,Uh];rfl)]
 congr 1;rw[Kz,Vx,KO];grind
theorem Zio (L:List Zt) (br:List Int) (o:L.length<=6000) (b:br.length<=1048576):Zfx L br=some (Zgp L.length br):=by
 have e:cat (λk (_:Zt)=>[!decide ((k:Int)∈br)]) 0 L=Zgp L.length br:=by
  apply Uy;intro j;rw[Zse];unfold Zgp;grind
 unfold Zfx;refine Qp (l:=L) (λk (_:Zt)=>[!decide ((k:Int)∈br)]) [] (λk x h H=>?_) ?_
 ·have d:(cat (λk (_:Zt)=>[!decide ((k:Int)∈br)]) 0 (L.take k)).length=(L.take k).length:=Zl0
  rw[Uk]at d;simp only[Uw,Zgi,show(k:Int)<(L.length:Int)from by omega,Ui,Zi8 br _ b,Bq];rw[Zk (by grind),Y3]
 ·simp only[Uw,Zgi,Uf,Uh,e]
variable {n:Nat}
theorem ZxY {s:List Int} {x:Int} (m:0<=x) (d:x<(n:Int):=by omega):List.set (Zgp n s) (Int.toNat x) false=Zgp n (s++[x]):=by
 apply Uy;intro j;rw[UR];unfold Zgp;grind
theorem ZxT (v:ZW) (br:List Int) (p:(ZW.links v).length<=6000) (c:Zja br 0 (((ZW.links v).length:Int)-1)) (d:br.length<=1048576):ZaE v br=some (v,Zgp (ZW.links v).length br,()):=by
 unfold ZaE;rw[Ra,Ra,Ra,Ra];generalize f:(ZW.links v).length=n at *;have h:List.length (List.replicate (Int.toNat (n:Int)) false)=n:=by simp
 have D:ZA (λw=>VK v br w.1 w.2.1) ((0:Int),List.replicate n true,())=some (.inr (v,Zgp n br,())):=by
  have:=Yv (l:=br) (ρ:=(Int×List Bool×Unit)⊕Yc) (λk=>((k:Int),Zgp n (br.take k),())) (step:=λw=>VK v br w.1 w.2.1) (good:=.inr (v,Zgp n br,()))
   (λk x a m=>by
    have b:=c x (Ud a);obtain ⟨y,o,_⟩:=Zit (l:=Zgp n (br.take k)) b.1 (by rw[ZhW];omega);simp only[VK,show (k:Int)<(br.length:Int) from by omega,Ui,Zp,a,o,Bq];rw[ZxY b.1,Xf a,Y3])
   (by simp only[VK,Uf,Uh,Uq])
  have E:Zgp n (br.take 0)=List.replicate n true:=by
   apply Uy;intro j;simp only[Zgp,Kt,UZ,decide_false,Bool.not_false,UL,Kb];grind
  grind
 refine XJ n (λk w=>w.1=(k:Int)/\w.2.1.length=n/\∀j,j<k->w.2.1[j]?=some true) _ ⟨rfl,by simp,λj g=>by omega⟩ ?_ ?_
 ·rintro k ⟨i,l,⟨⟩⟩ m ⟨H,q,s⟩
  simp only at H q s;subst H;have a:l[k]?=some l[k]:=Ub (by omega);left;simp only[ZcG,f,h,show(k:Int)<(n:Int)from by omega,Ui,Zp,a,Bq];refine⟨_,rfl,by simp only;rw[Y3],by simp[q],λj g=>?_⟩;grind
 ·rintro⟨i,l,⟨⟩⟩ ⟨H,q,s⟩
  simp only at H q s;subst H;have e:l=List.replicate n true:=by
   apply Uy;grind
  simp only[ZcG,f,h,Uf,Uh];grind
def Zlt (n:Int) (l:List Int):Prop:=Zja l 0 (n-1)/\Inc l
theorem ZEL {l:List Int}:Inc l<->Zei l (λk x=>∀y,0<k->l[k-1]?=some y->y<x):=by
 constructor
 ·intro h k x H y a i
  exact h (k-1) y x i (by grind)
 ·intro h k x y H i
  exact h (k+1) y i x (by omega) H
theorem Zod (n:Int) (c:l.length<=1048576) (f:0<=n/\n<=1048576:=by omega):Zg3 l n=some (tr (Zlt n l)):=by
 have E:Wq (n-1)=n-1:=QR;unfold Zg3;rw[V8 (l:=l) (show List.length _<=_ by omega) (λk x=>(0<=x/\x<=n-1)/\∀ y,0<k->l[k-1]?=some y->y<x) (bad:=false) (good:=true)
  (λk x h H _=>by
   simp only[Zev,show(k:Int)<(l.length:Int)from by omega,Ui,Zp,h,Bq,Jy,E];by_cases b:0<=x/\x<=n-1
   ·rw[Uc (ZY b)]
    by_cases m:(0:Int)<(k:Int)
    ·obtain⟨y,i⟩:∃y,l[k-1]?=some y:=⟨_,Ub (by omega)⟩
     rw[Uc m,ZlF,Zp,i,Bq]
     simp_all
    grind
   ·rw[Ue (λq=>b ((YS _).1 q))]
    grind)
  (λ_=>by simp only[Zev,Uf,Uh]),Zjo]
 congr 1;refine Zap ?_;unfold Zlt;rw[ZEL];constructor
 ·intro q
  exact⟨ZeF.1 (λk x h=>(q k x h).1),λk x h=>(q k x h).2⟩
 ·rintro⟨Q,a⟩ k x h
  exact⟨Q x (Ud h),a k x h⟩
theorem ZpW (n:Int) (q:l.length<=1048576):((Qe l 0 n).bind λb=>if b=true then(Jj l).bind λc=>some c else some false)=some (tr (Zja l 0 n/\Inc l)) :=
 XA (Ziy _ _ _ q) (λ_=>Za6 (Zhv _ (show List.length _<=_ by omega)))
theorem ZfC (h:Z7 b) {l:Zt} (q:l∈Zz b):(0<=Gj l/\Gj l<2*((Zg (K2 b)).length:Int))/\(0<=Gm l/\Gm l<2*((Zg (K2 b)).length:Int)):=by
 have J:=h.ok.1.few;unfold Zz at q;rcases Uu.1 q with q|q
 ·obtain⟨i,x,g,H⟩:=XQ.1 q
  rw[Us]at H;obtain⟨I,⟨c,f,u⟩,_⟩:=h.ok.1.2.2.1 x (Ud g);have z:=h.ok.1.1.2.1 c (Ud f);unfold Zie at H;rw[f]at H;obtain⟨k,a,t,d⟩:=XQ.1 H;have o:=(z.2.2.1.2 k a t).1;have F:=o.1;have G:=o.2.1;obtain⟨B,r⟩:=ZkX g;have n:fst (K2 b) i+(Gc x).length<=(Zg (K2 b)).length:=by
   rw[r,Ug,Ug,ZhH];unfold fst;omega
  unfold Zo8 at d;obtain⟨p,m,rfl⟩:=Ke.1 d;have C:(0<=p.1/\p.1<=1)/\(0<=p.2.1/\p.2.1<=1):=by
   unfold trs at m;repeat' split at m
   all_goals grind
  simp only[Vs,Gj,Gm];omega
 ·obtain⟨v,w,E,H⟩:=XQ.1 q
  rw[Us]at H;have D:v<(K5 (K2 b)).length:=by
   have:=(Ua.1 E).1;have:=h.ok.2.1;omega
  have N:=Zww h D;obtain⟨j,s,y,e⟩:=XQ.1 H;have A:=ZkS (Ud y);simp only[UD,UZ,Ks]at e;rcases e with rfl|rfl
  ·simp only[Vs,Gj,Gm];omega
  ·simp only[Vs,Gj,Gm];omega
theorem VN (h:Z7 b):(Zz b).length<=6000:=by
 have d:=ZjS h;have f:=ZlZ h (K4 b);have g:=h.ok.2.1;have i:=h.ok.1.2.1.2.1;unfold Zz ZmX;grind
def ZGm (b:Za) (x:Zt) (y:Pl):Prop:=GP x=1/\∃(i:Nat) (u:Zd) (c:Zo) (k:Nat) (a:ZK),y.1=(i:Int)/\(K3 (K2 b))[i]?=some u/\0<=Gr u/\(Gd (K6 b))[(Gr u).toNat]?=some c/\
 (Gp c)[k]?=some a/\GY x=(k:Int)/\Zeh (GJ a) true/\Zeh (GQ a) true
def ZH4 (b:Za) (x:Zt) (v:Nat):Prop:=GP x=2/\∃(w:Zq) (j:Nat) (z:Int),(K4 b)[v]?=some w/\GY x=(j:Int)/\(Gu w)[j]?=some z
structure ZyJ (b:Za) (x:Zt) (y:Pl) (v:Nat):Prop where
 to0:0<=Gm x
 to1:Gm x<=1000000
 place:(Zg (K2 b))[(Gm x/2).toNat]?=some y
 net:y.2.2.1=(v:Int)
 few:v<(K4 b).length
 kind:ZGm b x y\/ZH4 b x v
variable {x:Zt}
theorem Zp6 (h:Z7 b) (l:x∈Zz b):∃y v,ZyJ b x y v:=by
 have V:=h.ok.1.few;have X:=ZQ V;have e:=ZfC h l;have Z:=h.ok.2.1;unfold Zz at l;rcases Uu.1 l with l|l
 ·obtain⟨i,u,C,z⟩:=XQ.1 l
  rw[Us]at z;obtain⟨S,⟨c,f,U⟩,r⟩:=h.ok.1.2.2.1 u (Ud C);have R:=h.ok.1.1.2.1 c (Ud f);unfold Zie at z;rw[f]at z;obtain⟨k,a,K,g⟩:=XQ.1 z;rw[Us]at g;have o:=(R.2.2.1.2 k a K).1;have h1:=o.1;have h2:=o.2.1;obtain⟨B,Q⟩:=ZkX C;unfold Zo8 at g;obtain⟨p,L,rfl⟩:=Ke.1 g;have J:(0<=p.2.1/\p.2.1<=1)/\(Gf a=1\/Gf a=2\/Gf a=3):=by
   unfold trs at L;repeat' split at L
   all_goals grind
  obtain⟨ht,hk⟩:=J;have H:Zeh (GJ a) true/\Zeh (GQ a) true:=by
   rcases o.2.2 with q|q|q
   all_goals grind
  have D:(Gc u)[(Gw a).toNat]?=some ((Gc u)[(Gw a).toNat]'(by omega)):=Ub _;have t:=r _ (Ud D);generalize (Gc u)[(Gw a).toNat]'(by omega)=n at D t;have F:0<=n/\n<=((K5 (K2 b)).length:Int)-1:=t;have d:(cat YW 0 ((K3 (K2 b)).take i)).length=fst (K2 b) i:=rfl;have E:Gm (Vs ((fst (K2 b) i:Nat)+Gs a) ((fst (K2 b) i:Nat)+Gw a) p.1 p.2.1 1 (k:Int))=2*((fst (K2 b) i:Int)+Gw a)+p.2.1:=rfl;have I:((2*((fst (K2 b) i:Int)+Gw a)+p.2.1)/2).toNat=fst (K2 b) i+(Gw a).toNat:=by omega
  refine⟨((i:Int),((Gw a).toNat:Int),n,decide (((Gw a).toNat:Int)=Wq (((Gc u).length:Int)-1)),()),n.toNat,e.2.1,by grind,?_,by show n=_;omega,by omega,.inl ⟨rfl,i,u,c,k,a,rfl,C,S.1,f,K,rfl,H.1,H.2⟩⟩;rw[E,I,Q,UE (by rw[d];omega),d,Nat.add_sub_cancel_left,Ut (by rw[ZhH];omega)];unfold YW;rw[Zse,D,Us];rfl
 ·obtain⟨v,w,A,z⟩:=XQ.1 l
  rw[Us]at z;have O:=(Ua.1 A).1;obtain⟨j,s,N,m⟩:=XQ.1 z;rw[Us]at m;have Y:((Gu w).length:Int)=((Xx (K2 b) (v:Int)).length:Int):=(h.ok.2.2 v w A).2.2.2.1;have W:=(Ua.1 N).1;have T:(Gu w)[j]?=some ((Gu w)[j]'(by omega)):=Ub _;obtain⟨q,y,M,P⟩:=XQ.1 (show s∈cat (Qu (v:Int)) 0 (Zg (K2 b))from Ud N);rw[Us]at P;have G:s=(q:Int)/\y.2.2.1=(v:Int):=by
   unfold Qu at P;grind
  obtain⟨rfl,t⟩:=G;simp only[UD,UZ,Ks]at m;rcases m with rfl|rfl
  ·refine⟨y,v,e.2.1,by grind,?_,t,O,.inr ⟨rfl,w,j,_,A,rfl,T⟩⟩
   rw[show Gm (Vs (Ziu (K2 b) (v:Int)) (q:Int) 0 0 2 (j:Int))=2*(q:Int)+0 from rfl,show((2*(q:Int)+0)/2).toNat=q by omega];exact M
  ·refine⟨y,v,e.2.1,by grind,?_,t,O,.inr ⟨rfl,w,j,_,A,rfl,T⟩⟩
   rw[show Gm (Vs (Ziu (K2 b) (v:Int)) (q:Int) 1 1 2 (j:Int))=2*(q:Int)+1 from rfl,show((2*(q:Int)+1)/2).toNat=q by omega];exact M
def ZBM (n r:Nat):Prop:=r*r<=n/\n<(r+1)*(r+1)
variable {r:Nat}
theorem ZDd (h:ZBM n r) (k:Nat):k<=r<->k*k<=n:=by
 constructor
 ·intro q
  exact Ko (Ku q q) h.1
 ·intro q
  by_cases c:k<=r
  ·exact c
  ·have:(r+1)*(r+1)<=k*k:=Ku (by omega) (by omega)
   have:=h.2;omega
theorem ZD2 (k:Nat):(2*k)*(2*k)=4*(k*k):=by
 grind
variable {S:Nat}
theorem ZDc {R:Nat} (h:ZBM S r) (H:ZBM (4*S) R):r/500=R/1000:=by
 have e:∀q:Nat,500*q<=r<->1000*q<=R:=λq=>by
  rw[ZDd h,ZDd H,show 1000*q=2*(500*q) by omega,ZD2];omega
 have E:=e (r/500);have i:=e (R/1000);omega
def upQ (x n:Nat):Nat:=if x%n=0 then x/n else x/n+1
theorem ZD6 {x q:Nat} (f:0<n):upQ x n<=q<->x<=n*q:=by
 unfold upQ;have d:=Nat.div_add_mod x n;have H:=Nat.mod_lt x f;constructor
 ·intro h
  split at h
  ·rename_i c
   have:=Nat.mul_le_mul_left n h;omega
  ·have:=Nat.mul_le_mul_left n h
   grind
 ·intro h
  split
  ·rename_i c
   refine Nat.le_of_mul_le_mul_left (c:=n) ?_ f;omega
  ·rename_i c
   have:n*(x/n)<n*q:=by omega
   have:=Nat.lt_of_mul_lt_mul_left this;omega
theorem ZE9 {R:Nat} (h:ZBM S r) (H:ZBM (4*S) R):(if r*r<S then r/500+1 else upQ r 500)=upQ (if R*R<4*S then R+1 else R) 1000:=by
 have p:∀{n x:Nat},ZBM n x->∀k,(if x*x<n then x+1 else x)<=k<->n<=k*k:=by
  intro n x l k;split
  ·rename_i c
   constructor
   ·intro q
    have:(x+1)*(x+1)<=k*k:=Ku q q;have:=l.2;omega
   ·intro q
    by_cases w:x+1<=k
    ·exact w
    ·have:k*k<=x*x:=Ku (by omega) (by omega)
     omega
  ·rename_i c
   have e:x*x=n:=by have:=l.1;omega
   constructor
   ·intro q
    rw[<-e];exact Ku q q
   ·intro q
    by_cases w:x<=k
    ·exact w
    ·have:(k+1)*(k+1)<=x*x:=Ku (by omega) (by omega)
     grind
 have E:∀q,(if r*r<S then r/500+1 else upQ r 500)<=q<->S<=(500*q)*(500*q):=λq=>by
  rw[<-p h (500*q)];split
  ·omega
  ·exact ZD6 (by decide)
 have i:∀q,upQ (if R*R<4*S then R+1 else R) 1000<=q<->S<=(500*q)*(500*q):=λq=>by
  rw[ZD6 (by decide),p H,show 1000*q=2*(500*q) by omega,ZD2];omega
 generalize (if r*r<S then r/500+1 else upQ r 500)=A at E ⊢;generalize upQ (if R*R<4*S then R+1 else R) 1000=B at i ⊢;have a:=(i A).2 ((E A).1 (UO _));have c:=(E B).2 ((i B).1 (UO _));omega
variable {ρ:Type}
theorem ZuA {H:Nat} (i:n<(H+1)*(H+1)) {step:Int×Int×Unit->Option ((Int×Int×Unit)⊕ρ)} {good:Nat->ρ}
  (b:∀o l:Nat,o<l->l<=H->step ((o:Int),(l:Int),())=some (.inl (if(o+l+1)/2*((o+l+1)/2)<=n then((((o+l+1)/2:Nat):Int),(l:Int),())else((o:Int),(((o+l+1)/2-1:Nat):Int),()))))
  (f:∀o:Nat,o<=H->step ((o:Int),(o:Int),())=some (.inr (good o))):∃r,ZBM n r/\r<=H/\ZA step ((0:Int),(H:Int),())=some (good r):=by
 obtain⟨x,e,r,rfl,F,q⟩:=Zh0 (step:=step) (v:=((0:Int),(H:Int),())) (λv=>∃o l:Nat,v=((o:Int),(l:Int),())/\o<=l/\l<=H/\o*o<=n/\n<(l+1)*(l+1)) (λv=>(v.2.1-v.1).toNat) (λx=>∃r,x=good r/\ZBM n r/\r<=H)
  ⟨0,H,rfl,by omega,by omega,by omega,i⟩ (by
   rintro _ ⟨o,l,rfl,g,z,a,h⟩;by_cases c:o<l
   ·left
    refine⟨_,b o l c z,?_,?_⟩
    ·split
     ·rename_i d
      exact⟨_,_,rfl,by omega,z,d,h⟩
     ·rename_i d
      refine⟨_,_,rfl,by omega,by omega,a,?_⟩;rw[show(o+l+1)/2-1+1=(o+l+1)/2 by omega];omega
    ·split
     ·simp only;omega
     ·simp only;omega
   ·right
    have:o=l:=by omega
    subst this;exact ⟨_,f o z,o,rfl,⟨a,h⟩,z⟩)
 grind
theorem ZDU {o l:Nat} (h:o+l<=8000000000:=by omega):Wq (Int.tdiv (Wq (Wq ((o:Int)+(l:Int))+(1:Int))) (2:Int))=(((o+l+1)/2:Nat):Int):=by
 rw[QR (n:=(o:Int)+(l:Int)),QR (n:=(o:Int)+(l:Int)+1),U1 (by omega),QR];omega
theorem ZDm {m:Nat} (h:m<=3000000000:=by omega):Wq ((m:Int)*(m:Int))=((m*m:Nat):Int):=by
 have:=Ku h h;rw[<-Int.natCast_mul];generalize m*m=q at this ⊢;exact QR
theorem Zt9 (s:S<(3000000000+1)*(3000000000+1):=by omega):∃r,ZBM S r/\r<=3000000000/\ZmR (S:Int)=some (r:Int):=by
 unfold ZmR;refine ZuA (n:=S) (H:=3000000000) (good:=λr=>(r:Int)) s (λo l t z=>?_) (λo q=>?_)
 ·show ZdH (S:Int) (o:Int) (l:Int)=_
  unfold ZdH;rw[QP,ZDU,ZDm];by_cases c:(o+l+1)/2*((o+l+1)/2)<=S
  ·rw[Uc c,QP]
  ·rw[Ue c,QQ,QR,show(((o+l+1)/2:Nat):Int)-1=(((o+l+1)/2-1:Nat):Int) by omega]
 ·show ZdH (S:Int) (o:Int) (o:Int)=_
  unfold ZdH;rw[Ue (Uf _)]
variable {m:Int}
theorem Zk6 (s:S<(2000000000+1)*(2000000000+1):=by omega):∃r,ZBM S r/\r<=2000000000/\Zfv (S:Int) m=some (if m=1 then((if r*r<S then r+1 else r:Nat):Int)else(r:Int)):=by
 unfold Zfv;refine ZuA (n:=S) (H:=2000000000) (good:=λr=>if m=1 then((if r*r<S then r+1 else r:Nat):Int)else(r:Int)) s (λo l t z=>?_) (λo q=>?_)
 ·show ZbB (S:Int) m (o:Int) (l:Int)=_
  unfold ZbB;rw[QP,ZDU,ZDm];by_cases c:(o+l+1)/2*((o+l+1)/2)<=S
  ·rw[Uc c,QP]
  ·rw[Ue c,QQ,QR,show(((o+l+1)/2:Nat):Int)-1=(((o+l+1)/2-1:Nat):Int) by omega]
 ·show ZbB (S:Int) m (o:Int) (o:Int)=_
  unfold ZbB;rw[Ue (Uf _),ZDm];by_cases k:m=1
  ·rw[Uc k,Uc k]
   by_cases c:o*o<S
   ·rw[QP,Uc c,QR]
    rfl
   ·rw[QQ,Ue c]
  ·rw[Ue k,Ue k]
theorem Znz {x:Nat} (f:0<n) (l:x<=4000000000) (Q:n<=1000) (R:m=0\/m=1):Yx (x:Int) (n:Int) m=some (if m=1 then(upQ x n:Int)else((x/n:Nat):Int)):=by
 have E:Int.tmod (x:Int) (n:Int)=((x%n:Nat):Int):=by rw[Int.tmod_eq_emod_of_nonneg (by omega)];omega
 have i:Int.tdiv (x:Int) (n:Int)=((x/n:Nat):Int):=by rw[U1 (by omega)];omega
 have b:=Nat.div_le_self x n;unfold Yx upQ;rw[Ra,E,i];clear E i;generalize x/n=q at b ⊢;rw[QQ,QR (n:=(q:Int))];by_cases c:x%n=0
 ·rw[QQ,Uc c]
  rcases R with rfl|rfl<;>rfl
 ·rw[QP,Ue c]
  rcases R with rfl|rfl
  ·rfl
  ·rw[Uc rfl,Uc rfl,QR]
   rfl
def sqs (s d:Int):Nat:=250000*(s.natAbs*s.natAbs)+d.natAbs*d.natAbs
variable {s d:Int}
theorem ZD3 (h:-1000000<=s) (f:s<=1000000) (g:0<=d) (i:d<=301000000):sqs s d<=350000000000000000/\(s.natAbs*s.natAbs:Nat)<=1000000000000/\(d.natAbs*d.natAbs:Nat)<=90601000000000000/\s*s=((s.natAbs*s.natAbs:Nat):Int)/\d*d=((d.natAbs*d.natAbs:Nat):Int):=by
 have a:=Ku (show s.natAbs<=1000000 by omega) (show s.natAbs<=1000000 by omega);have b:=Ku (show d.natAbs<=301000000 by omega) (show d.natAbs<=301000000 by omega);refine⟨?_,by omega,by omega,?_,?_⟩
 ·unfold sqs
  generalize s.natAbs*s.natAbs=x at *;generalize d.natAbs*d.natAbs=y at *;omega
 ·rw[Int.natCast_mul,Int.natAbs_mul_self']
 ·rw[Int.natCast_mul,Int.natAbs_mul_self']
theorem ZBC (b:-1000000<=s) (g:s<=1000000) (j:0<=d) (k:d<=301000000) (p:m=0\/m=1) :
  ∃r,ZhG s d m=some r/\0<=r/\((Zfv (Wq (Wq (Wq ((1000000:Int)*s)*s)+Wq (Wq ((4:Int)*d)*d))) m).bind λl=>(Yx l (1000:Int) m).bind λL=>some L)=some r:=by
 obtain⟨U,W,X,E,i⟩:=ZD3 b g j k;have C:Wq (Wq (Wq (Wq ((500:Int)*s)*(500:Int))*s)+Wq (d*d))=(sqs s d:Int):=by
  have f:(500:Int)*s*500*s=250000*(s*s):=by
   rw[<-Int.mul_assoc];congr 1;omega
  rw[QR (n:=500*s),QR (n:=500*s*500),f,E,i];unfold sqs;generalize s.natAbs*s.natAbs=x at *;generalize d.natAbs*d.natAbs=y at *;rw[QR (n:=250000*(x:Int)),QR (n:=(y:Int)),QR];omega
 have a:Wq (Wq (Wq ((1000000:Int)*s)*s)+Wq (Wq ((4:Int)*d)*d))=((4*sqs s d:Nat):Int):=by
  rw[QR (n:=1000000*s),QR (n:=4*d),Int.mul_assoc,Int.mul_assoc,E,i];unfold sqs;generalize s.natAbs*s.natAbs=x at *;generalize d.natAbs*d.natAbs=y at *;rw[QR (n:=1000000*(x:Int)),QR (n:=4*(y:Int)),QR];omega
 generalize sqs s d=S at U C a;obtain⟨r,F,t,e⟩:=Zt9 (S:=S);obtain⟨R,H,o,h⟩:=Zk6 (S:=4*S) (m:=m);unfold ZhG;rw[C,a,e,h,Bq,Bq,ZjL,ZDm];rw[show(500:Int)=((500:Nat):Int)from rfl,show(1000:Int)=((1000:Nat):Int)from rfl];rcases p with rfl|rfl
 ·refine⟨((r/500:Nat):Int),?_,by omega,?_⟩
  ·rw[Ue (by decide),Znz (by omega) (by omega) (by omega) (.inl rfl),Bq,Ue (by decide)]
  ·rw[Ue (by decide),Znz (by omega) (by omega) (by omega) (.inl rfl),Bq,Ue (by decide),ZDc F H]
 ·have q:=ZE9 F H
  refine⟨((upQ (if R*R<4*S then R+1 else R) 1000:Nat):Int),?_,by omega,?_⟩
  ·rw[Uc rfl,<-q]
   by_cases c:r*r<S
   ·rw[QP,Uc c,U1 (by omega),QR (n:=(r:Int)/((500:Nat):Int)),QR]
    congr 1
   ·rw[QQ,Ue c,Znz (by omega) (by omega) (by omega) (.inr rfl),Bq,Uc rfl]
  ·rw[Uc rfl,Znz (by omega) (by split<;>omega) (by omega) (.inr rfl),Bq,Uc rfl]
def ZyH (e l:Int):Prop:=100<=e/\e<=l/\l<=5000
def JQ (c:ZB):Prop:=Zbr (GZ c)=true/\ZyH (G4 c) (G3 c)/\ZyH (G5 c) (G6 c)
variable {c:ZB}
theorem ZDj (h:sm XR c):(GZ c).length<=4611686018427387904:=by
 refine ZjA ?_;first|exact h.1|exact h.2.1
theorem Zmw (e l:Int):ZdD e l=some (tr (ZyH e l)):=by
 unfold ZdD ZyH;exact YP (λ_=>YP (λ_=>Zdl Kf))
theorem Zkm (c:ZB):ZhB c=some (tr (JQ c)):=by
 unfold ZhB;exact XA (by rw[ZgU];exact Zdl Iff.rfl) (λ_=>XA (Zmw _ _) (λ_=>Za6 (Zmw _ _)))
theorem Zo0 (c:ZB) (h:sm XR c):ZhL c=some (tr (JQ c)):=by
 unfold ZhL;rw[V8 (l:=[G4 c,G3 c,G5 c,G6 c]) (show List.length _<=_ by simp) (λ_ x=>(100:Int)<=x/\x<=5000) (bad:=false) (good:=tr (Zbr (GZ c)=true/\G4 c<=G3 c/\G5 c<=G6 c))
  (λk x H d _=>by
   simp only[Ze1,show(k:Int)<(List.length [G4 c,G3 c,G5 c,G6 c]:Int)from by omega,Ui,Zp,H,Bq,Jy];constructor
   ·intro r;rw[Uc (ZY r)]
   ·intro r;rw[Ue (λq=>r ((YS _).1 q))])
  (λ_=>by
   simp only[Ze1,Uf,Uh,Zch _ (ZDj h),Bq];by_cases a:Zbr (GZ c)=true
   ·rw[Uc a]
    by_cases b:G4 c<=G3 c
    ·rw[Uc b]
     congr 2;exact(Zrm (by grind)).symm
    ·rw[Ue b,Yq (λq=>b q.2.1)]
   ·rw[Ue a,Yq (λq=>a q.1)]),Zlq]
 congr 1;refine Zap ?_;rw[ZeF];simp only[UD,UZ,Ks,forall_eq_or_imp,forall_eq];unfold JQ ZyH;grind
structure VOk (b:Za) (v:ZW):Prop where
 Zg:ZW.Zg v=Zg (K2 b)
 block:G0 v=b
 links:ZW.links v=Zz b
 loads:ZW.loads v=(List.range (K4 b).length).map (ldF b)
 Zjf:ZW.Zjf v=(List.range (K4 b).length).map (edF b)
 extras:ZW.extras v=[]
theorem Ztv (h:Z7 b):∃v,Zar b=some v/\VOk b v:=by
 obtain⟨v,d,f,g,i,j,I,k⟩:=ZvJ h;exact⟨v,d,f,g,i,j,I,k⟩
variable {y:Pl}
theorem ZsM (N:ZyJ b x y n):atI (Zg (K2 b)) (Wq (Int.tdiv (Gm x) (2:Int)))=some y:=by
 have m:=N.to0;have d:=N.to1;rw[U1 m,QR];exact Yr (by omega) N.place
variable {v:ZW}
theorem Zw8 (a:VOk b v) (N:ZyJ b x y n):Zb9 v x=some (n:Int):=by
 unfold Zb9;rw[a.Zg,ZsM N,Bq,<-N.net]
theorem Zp4 (h:Z7 b) (N:ZyJ b x y n):ZdS b x=some (n:Int):=by
 unfold ZdS;rw[ZP _ h.ok.1.few,Bq,ZsM N,Bq,<-N.net]
theorem ZD4 {l:List ZE} (h:Zeh l true) {n:Int} (H:0<=n):∃t,atI l (Int.tmod n (2:Int))=some t/\Zah t/\∀v∈Gz t,0<=v:=by
 have e:0<=Int.tmod n 2/\Int.tmod n 2<2:=by grind
 obtain⟨t,d,f⟩:=Zit (l:=l) e.1 (by rw[h.1];exact e.2);exact⟨t,d,(h.2 t f).1,(h.2 t f).2 rfl⟩
variable {w:Zq} {ld:List Int}
theorem ZCY (h:Zu5 b n w ld):atI ld (0:Int)=some (ldF b n):=by
 have d:=h.n1;have f:=h.nl;have e:ld[0]?=some (ld[0]'(by omega)):=Ub _;show atI ld ((0:Nat):Int)=_;rw[Zp];unfold ldF;rw[h.prog,Bq,e];rfl
theorem ZAt (h:Zu5 b n w ld):edF b n=(Gu w).map (sdl w ld):=by
 unfold edF;rw[Zq3 h];rfl
theorem Znr (h:Z7 b) (f:VOk b v) (N:ZyJ b x y n) (z:ZGm b x y) :
  ∃a V t,ZdI v x=some a/\ZdR b x=some (a,ldF b n)/\atI (GJ a) (Int.tmod (Gm x) (2:Int))=some V/\Zah V/\atI (GQ a) (Int.tmod (Gm x) (2:Int))=some t/\Zah t/\∀v∈Gz t,0<=v:=by
 obtain⟨D,i,u,c,k,a,E,j,l,m,o,p,q,r⟩:=z;obtain⟨V,F,s,_⟩:=ZD4 q N.to0;obtain⟨t,A,B,w⟩:=ZD4 r N.to0;have C:(K4 b)[n]?=some ((K4 b)[n]'N.few):=Ub _;obtain⟨ld,H⟩:=ZHX h C;have g:atI (K3 (K2 b)) (Gt y)=some u:=by
  show atI _ y.1=_;rw[E,Zp];exact j
 have G:atI (K3 (K2 b)) (GL y)=some u:=g;have d:atI (Gd (K6 b)) (Gr u)=some c:=Yr l m;have e:atI (Gp c) (GY x)=some a:=by rw[p,Zp];exact o
 refine⟨a,V,t,?_,?_,F,s,A,B,w⟩
 ·unfold ZdI
  rw[f.Zg,f.block,ZsM N,Bq,g,Bq,d,Bq,e];rfl
 ·unfold ZdR
  rw[ZP _ h.ok.1.few,Bq,ZsM N,Bq,G,Bq,d,Bq,e,Bq,show ZG.net y=(n:Int)from N.net,H.ref,Bq,ZCY H];rfl
theorem ZwW (a:VOk b v) (f:n<(K4 b).length):atI (ZW.loads v) (n:Int)=some (ldF b n):=by
 rw[Zp,a.loads,UL,Kv f];rfl
theorem Zzk (a:VOk b v) (f:n<(K4 b).length):atI (ZW.Zjf v) (n:Int)=some (edF b n):=by
 rw[Zp,a.Zjf,UL,Kv f];rfl
theorem Zzw (h:JQ c) (kind:Int) (m:Int):∃F,Zbh c kind m=some F/\ZeC c kind m=some F/\0<=F/\F<=5000:=by
 obtain⟨_,⟨a,A,j⟩,⟨U,W,X⟩⟩:=h;unfold Zbh ZeC;by_cases d:kind=1
 ·by_cases g:m=0
  ·simp only[d,g,Ui]
   grind
  ·simp only[d,g,Ui,Uh]
   grind
 ·by_cases g:m=0
  ·simp only[d,g,Ui,Uh]
   grind
  ·simp only[d,g,Uh]
   grind
theorem Zxp {q F:Int} (Q:-1000000<=q) (c:q<=1000000) (F0:0<=F) (F1:F<=5000) (R:m=0\/m=1):∃r,Zjh q F m=some r/\Yx (Wq (q*F)) (1000:Int) m=some r/\-5000000<=r/\r<=5000000:=by
 have p:=Zqd Q c F0;obtain⟨r,H,h⟩:=Zsn (a:=q*F) (b:=1000) (m:=m) (by omega) (by omega) (by omega) R;have h:=h 5000000 (by omega) (by omega);unfold Zjh;rw[ZjL,QR (n:=q*F),H];grind
variable {k:Nat}
theorem ZiB (h:Z7 b) (H:VOk b v) (J:JQ c) (t:(Zz b)[k]?=some x) (s:Int) (R:m=0\/m=1) :
  ∃r,ZaL v c (k:Int) s m=some r/\JD b c x s m=some r/\-5000000<=r/\r<=5000000:=by
 obtain⟨y,n,N⟩:=Zp6 h (Ud t);obtain⟨F,F1,F2,F3,F4⟩:=Zzw J (GP x) m;have K:atI (ZW.links v) (k:Int)=some x:=by rw[H.links,Zp];exact t
 unfold ZaL JD;rw[K,Bq,Zw8 H N,Bq];rcases N.kind with d|I
 ·obtain⟨a,X,Y,c1,c2,C,U,O,P,_⟩:=Znr h H N d
  obtain⟨q,Q,W,L,M⟩:=look_eq U s (ldF b n) R;obtain⟨r,g,u,i,l⟩:=Zxp L M F3 F4 R;refine⟨r,?_,?_,i,l⟩
  ·rw[Uc d.1,ZwW H N.few,Bq,c1,Bq,C,Bq,Q,Bq,F1,Bq,g]
   rfl
  ·rw[Uc d.1,c2,Bq]
   grind
 ·obtain⟨V,w,j,z,A,o,E⟩:=I
  obtain⟨ld,p⟩:=ZHX h A;obtain⟨f,B,D⟩:=Ztb p R;obtain⟨G,S,T⟩:=B z (Ud E);obtain⟨r,g,u,i,l⟩:=Zxp (q:=f z) (by omega) (by omega) F3 F4 R;have e:¬GP x=1:=by omega
  refine⟨r,?_,?_,i,l⟩
  ·rw[Ue e,Zzk H N.few,Bq,ZAt p,o,Zp,UL,E,UV,Bq,ZjL,G,Bq,F1,Bq,g]
   rfl
  ·rw[Ue e,Zp4 h N,Bq,D,Bq,o,Zp,UL,E,UV,Bq,F2,Bq,u]
   rfl
theorem Zte (h:Z7 b) (H:VOk b v) (o:(Zz b)[k]?=some x) (S:-1000000<=s) (C:s<=1000000) (R:m=0\/m=1) :
  ∃r,XK v (k:Int) s m=some r/\Qh b x s m=some r/\-1000000<=r/\r<=1000000:=by
 obtain⟨y,n,N⟩:=Zp6 h (Ud o);have A:atI (ZW.links v) (k:Int)=some x:=by rw[H.links,Zp];exact o
 unfold XK Qh;rw[A,Bq,Zw8 H N,Bq];rcases N.kind with c|F
 ·obtain⟨a,V,T,c1,c2,D,U,O,P,_⟩:=Znr h H N c
  obtain⟨q,Q,B,g,p⟩:=look_eq P s (ldF b n) R;refine⟨q,?_,?_,g,p⟩
  ·rw[Uc c.1,ZwW H N.few,Bq,c1,Bq,O,Bq,Q,Bq,Int.min_eq_left p]
  ·rw[Uc c.1,c2,Bq]
   grind
 ·obtain⟨I,w,j,z,i,l,E⟩:=F
  obtain⟨ld,f⟩:=ZHX h i;obtain⟨G,t,u⟩:=f.sink (Ud E);obtain⟨q,Q,B,g⟩:=ZBC (s:=s) (d:=sdl w ld z) (m:=m) S C t u R;have e:¬GP x=1:=by omega
  refine⟨Min.min q 1000000,?_,?_,by omega,by omega⟩
  ·rw[Ue e,Zzk H N.few,Bq,ZAt f,l,Zp,UL,E,UV,Bq,Q]
   rfl
  ·rw[Ue e,Zp4 h N,Bq]
   unfold ZdQ;rw[Zp,i,Bq,l,Zp,E,Bq,Zmk f,Bq,G,Bq,g,Bq,Int.min_comm]
theorem spans_eq (h:Z7 b) (a:VOk b v) (q:JQ c) (l:(Zz b)[k]?=some x) {s:ZC} (S:-1000000<=Gh s/\Gh s<=1000000) (e:-1000000<=Gl s/\Gl s<=1000000) :
  ∃d o:ZC,Zca v c (k:Int) s=some (d,o)/\ZbI b c x s=some (d,o)/\(-5000000<=Gh d/\Gh d<=5000000)/\(-5000000<=Gl d/\Gl d<=5000000)/\(-1000000<=Gh o/\Gh o<=1000000)/\(-1000000<=Gl o/\Gl o<=1000000):=by
 obtain⟨D,A,U,c1⟩:=ZiB h a q l (Gh s) (.inl rfl:(0:Int)=0\/(0:Int)=1);obtain⟨i,f,W,c2⟩:=ZiB h a q l (Gl s) (.inl rfl:(0:Int)=0\/(0:Int)=1);obtain⟨m,j,X,R⟩:=ZiB h a q l (Gh s) (.inr rfl:(1:Int)=0\/(1:Int)=1);obtain⟨n,g,Y,C⟩:=ZiB h a q l (Gl s) (.inr rfl:(1:Int)=0\/(1:Int)=1);obtain⟨O,E,F,I⟩:=Zte h a l S.1 S.2 (.inl rfl:(0:Int)=0\/(0:Int)=1);obtain⟨y,t,z,J⟩:=Zte h a l e.1 e.2 (.inl rfl:(0:Int)=0\/(0:Int)=1);obtain⟨p,u,B,K⟩:=Zte h a l S.1 S.2 (.inr rfl:(1:Int)=0\/(1:Int)=1);obtain⟨r,w,G,L⟩:=Zte h a l e.1 e.2 (.inr rfl:(1:Int)=0\/(1:Int)=1);have H:atI (ZW.links v) (k:Int)=some x:=by rw[a.links,Zp];exact l
 refine⟨(Min.min D i,Max.max m n,()),(Min.min O y,Max.max p r,()),?_,?_,?_,?_,?_,?_⟩
 ·unfold Zca
  rw[A,f,j,g,H,a.extras]
  simp_all
 ·unfold ZbI
  grind
 all_goals grind
def JF (s:ZC):Prop:=0<=Gh s/\Gh s<=Gl s/\Gl s<=1000000
variable (s:ZC)
theorem Zo4:Zgk s=some (tr (JF s)):=by
 unfold Zgk JF;exact YP (λ_=>YP (λ_=>Zdl Kf))
def Za2 (s:ZC):Prop:=(-1000000000<=Gh s/\Gh s<=1000000000)/\(-1000000000<=Gl s/\Gl s<=1000000000)/\Gh s<=Gl s
theorem Zc7:J7 s=some (tr (Za2 s)):=by
 unfold J7 Za2 ZjQ;exact XA (Za6 (JN _ _ _)) (λ_=>XA (Za6 (JN _ _ _)) (λ_=>Zdl Kf))
theorem Zkn:ZfM s=some (tr (JF s)):=by
 unfold ZfM ZjP;refine ZaH (XA (Zc7 s) (λ_=>XA (Za6 (JN _ _ _)) (λ_=>Za6 (Za6 (JN _ _ _))))) ?_;unfold JF Za2;omega
theorem Zi5:ZdN s=some (tr (Za2 s)):=by
 unfold ZdN Za2;exact XA (Jy _ _ _) (λ_=>XA (Jy _ _ _) (λ_=>Zdl Kf))
def ZaU (n:Int) (l:List Zj) (k:Nat) (x:Zj):Prop :=
 (0<=Gi x/\Gi x<=n-1)/\(∀y,0<k->l[k-1]?=some y->Gi y<Gi x)/\Za2 (GM x)/\JF (GR x)
theorem Znf (h:Z7 b) (l:List Zj) (m:l.length<=1048576):Zgl b l=some (tr (Zei l (ZaU (2*((Zg (K2 b)).length:Int)) l))):=by
 have f:=h.ok.1.few;have e:=ZQ f;unfold Zgl VT;rw[ZP _ f,Bq,Bq,YI (n:=2*((Zg (K2 b)).length:Int))];rw[V8 (l:=l) (show Len l by unfold Len;omega) (ZaU (2*((Zg (K2 b)).length:Int)) l) (bad:=false) (good:=true)
  (step:=λv=>ZbH l (2*((Zg (K2 b)).length:Int)) v.1)
  (λk x g j _=>by
   simp only[ZbH,show (k:Int)<(l.length:Int) from by omega,Ui,Zp,g,Bq,Jy,Zi5,Zo4,YI (show (-9223372036854775808:Int)<=2*((Zg (K2 b)).length:Int)-1 by omega)];unfold ZaU;have M:∀ (Q:Prop),(Q<->Za2 (GM x)/\JF (GR x))->((Q->(if tr (Za2 (GM x))=true then if tr (JF (GR x))=true then some (.inl (Wq ((k:Int)+1),())) else some (.inr false) else some (.inr false):Option ((Int×Unit) ⊕ Bool))=some (.inl (Wq ((k:Int)+1),())))/\
     (¬Q->(if tr (Za2 (GM x))=true then if tr (JF (GR x))=true then some (.inl (Wq ((k:Int)+1),())) else some (.inr false) else some (.inr false):Option ((Int×Unit) ⊕ Bool))=some (.inr false))):=by
    intro Q H;constructor
    ·intro q
     rw[Uc (ZY (H.1 q).1),Uc (ZY (H.1 q).2)]
    ·intro q
     by_cases s:Za2 (GM x)
     ·rw[Uc (ZY s),Ue (λS=>q (H.2 ⟨s,(YS _).1 S⟩))]
     ·rw[Ue (λS=>s ((YS _).1 S))]
   by_cases a:0<=Gi x/\Gi x<=2*((Zg (K2 b)).length:Int)-1
   ·rw[Uc (ZY a)]
    by_cases c:k=0
    ·subst c
     rw[Ue (show ¬(0:Int)<((0:Nat):Int) by omega)];refine M _ ⟨λq=>q.2.2,λq=>⟨a,λy h=>by omega,q⟩⟩
    ·have i:l[k-1]?=some l[k-1]:=Ub (by omega)
     have L:atI l ((k:Int)-1)=some l[k-1]:=Yr (by omega) (by rw[<-i];congr 1;omega);generalize l[k-1]=y at i L;rw[QP,QR (n:=(k:Int)-1),L,Bq];by_cases d:Gi x<=Gi y
     ·rw[Uc d]
      exact⟨λq=>by have:=q.2.1 y (by omega) i;omega,λ_=>rfl⟩
     ·rw[Ue d]
      refine M _ ⟨λq=>q.2.2,λq=>⟨a,λz _ T=>?_,q⟩⟩;rw[i]at T;injection T with T;subst T;omega
   ·rw[Ue (λq=>a ((YS _).1 q))]
    exact ⟨λq=>absurd q.1 a,λ_=>rfl⟩)
  (λ_=>by simp only[ZbH,Uf,Uh]),Zjo]
theorem ZfN (h:Z7 b) (v:ZW) (j:ZW.Zg v=Zg (K2 b)) (l:List Zj) (p:l.length<=1048576):V3 v l=some (tr (Zei l (ZaU (2*((Zg (K2 b)).length:Int)) l))):=by
 have d:=h.ok.1.few;have g:=ZQ d;have e:∀n,ZeN v n=some (tr (0<=n/\n<=2*((Zg (K2 b)).length:Int)-1)):=by
  intro n;unfold ZeN Xe;rw[show XU (ZW.Zg v)=some ((ZW.Zg v).length:Int)from rfl,Bq,Bq,j,YI (n:=2*((Zg (K2 b)).length:Int)),QR];exact Za6 (JN _ _ _)
 unfold V3;rw[V8 (l:=l) (show Len l by unfold Len;omega) (ZaU (2*((Zg (K2 b)).length:Int)) l) (bad:=false) (good:=true)
  (step:=λu=>Jb v l u.1)
  (λk x m o _=>by
   simp only[Jb,show(k:Int)<(l.length:Int)from by omega,Ui,Zp,m,Bq,e,Zc7,Zkn];unfold ZaU;by_cases Q:0<=Gi x/\Gi x<=2*((Zg (K2 b)).length:Int)-1
   ·rw[Uc (ZY Q)]
    by_cases c:Za2 (GM x)
    ·rw[Uc (ZY c)]
     by_cases f:JF (GR x)
     ·rw[Uc (ZY f)]
      by_cases H:k=0
      ·subst H
       rw[Ue (show ¬(0:Int)<((0:Nat):Int) by omega)];exact⟨λ_=>rfl,λq=>absurd ⟨Q,λy h=>by omega,c,f⟩ q⟩
      ·have i:l[k-1]?=some l[k-1]:=Ub (by omega)
       have L:atI l ((k:Int)-1)=some l[k-1]:=Yr (by omega) (by rw[<-i];congr 1;omega);generalize l[k-1]=y at i L;rw[QP,QR (n:=(k:Int)-1),L,Bq];by_cases a:Gi x<=Gi y
       ·rw[Uc a]
        exact⟨λq=>by have:=q.2.1 y (by omega) i;omega,λ_=>rfl⟩
       ·rw[Ue a]
        refine⟨λ_=>rfl,λq=>absurd ⟨Q,λz _ T=>?_,c,f⟩ q⟩;rw[i]at T;injection T with T;subst T;omega
     ·rw[Ue (λq=>f ((YS _).1 q))]
      exact⟨λq=>absurd q.2.2.2 f,λ_=>rfl⟩
    ·rw[Ue (λq=>c ((YS _).1 q))]
     exact⟨λq=>absurd q.2.2.1 c,λ_=>rfl⟩
   ·rw[Ue (λq=>Q ((YS _).1 q))]
    exact ⟨λq=>absurd q.1 Q,λ_=>rfl⟩)
  (λ_=>by simp only[Jb,Uf,Uh]),Zjo]
def Zero (s:ZC):Prop:=Gh s=0/\Gl s=0
def ZyM (t:Zf) (k:Nat) (r:Bool):Prop :=
 ∃a s,(Gx t)[k]?=some a/\(Gv t)[k]?=some s/\Za2 a/\JF s/\(r=false->Zero a/\Zero s)
def ZiW (n:Int) (t:Zf):Prop :=
 ((Ga t).length:Int)=n/\((Gx t).length:Int)=n/\((Gv t).length:Int)=n/\Zei (Ga t) (ZyM t)
variable {t:Zf} {a s:ZC}
theorem ZDp {x:Bool} {n bd:ρ} (H:(Gx t)[k]?=some a) (b:(Gv t)[k]?=some s) :
  (ZyM t k x->((if tr (Za2 a)=true then(if tr (JF s)=true then(if x=true then some n else if(Decidable.decide (Gh a=(0:Int))&&Decidable.decide (Gl a=(0:Int)))=true then(if(Decidable.decide (Gh s=(0:Int))&&Decidable.decide (Gl s=(0:Int)))=true then some n else some bd)else some bd)else some bd)else some bd):Option ρ)=some n)/\
  (¬ZyM t k x->((if tr (Za2 a)=true then(if tr (JF s)=true then(if x=true then some n else if(Decidable.decide (Gh a=(0:Int))&&Decidable.decide (Gl a=(0:Int)))=true then(if(Decidable.decide (Gh s=(0:Int))&&Decidable.decide (Gl s=(0:Int)))=true then some n else some bd)else some bd)else some bd)else some bd):Option ρ)=some bd):=by
 have z:ZyM t k x<->Za2 a/\JF s/\(x=false->Zero a/\Zero s):=by
  constructor
  ·rintro⟨A,S,d,f,g⟩
   grind
  ·exact λh=>⟨a,s,H,b,h⟩
 rw[z];have T:∀u:ZC,((Decidable.decide (Gh u=(0:Int))&&Decidable.decide (Gl u=(0:Int)))=true)<->Zero u:=λu=>by
  unfold Zero;grind
 by_cases c1:Za2 a
 ·rw[Uc (ZY c1)]
  by_cases c2:JF s
  ·rw[Uc (ZY c2)]
   grind
  ·rw[Ue (λq=>c2 ((YS _).1 q))]
   grind
 ·rw[Ue (λq=>c1 ((YS _).1 q))]
  grind
theorem Zko (h:Z7 b) (v:ZW) (c:ZW.Zg v=Zg (K2 b)) (t:Zf):Zbo v t=some (tr (ZiW (2*((Zg (K2 b)).length:Int)) t)):=by
 have i:=ZQ h.ok.1.few;unfold Zbo Xe;rw[show XU (ZW.Zg v)=some ((ZW.Zg v).length:Int) from rfl,Bq,Bq,c,YI (n:=2*((Zg (K2 b)).length:Int)),
  show ZcW (Ga t)=some ((Ga t).length:Int) from rfl,show JI (Gx t)=some ((Gx t).length:Int) from rfl,show JI (Gv t)=some ((Gv t).length:Int) from rfl]
 simp only[Bq];unfold ZiW;refine YP λQ=>YP λf=>YP λg=>?_;rw[V8 (l:=Ga t) (show Len (Ga t) by unfold Len;omega) (ZyM t) (bad:=false) (good:=true) (step:=λv=>JV t v.1)
  (λk x d e _=>by
   have H:(Gx t)[k]?=some ((Gx t)[k]'(by omega)):=Ub _;have q:(Gv t)[k]?=some ((Gv t)[k]'(by omega)):=Ub _;generalize (Gx t)[k]'(by omega)=a at H;generalize (Gv t)[k]'(by omega)=s at q;simp only[JV,show (k:Int)<((Ga t).length:Int) from by omega,Ui,Zp,d,H,q,Bq,Zc7,Zkn];exact ZDp H q)
  (λ_=>by simp only[JV,Uf,Uh]),Zjo]
theorem Zo3 (h:Few (K2 b)):VT b=some (2*((Zg (K2 b)).length:Int)):=by
 have i:=ZQ h;unfold VT;rw[ZP _ h,Bq,QR]
abbrev NSt:=Option (ZC×ZC)
def V5:ZC:=((0:Int),(0:Int),())
def hul (a b:ZC):ZC:=(Min.min (Gh a) (Gh b),Max.max (Gl a) (Gl b),())
def ZAg (st:NSt) (a s:ZC):NSt:=match st with
 |none=>some (a,s)
 |some q=>some (hul q.1 a,hul q.2 s)
def Zs2 (a d:ZC):ZC:=(Wq (Gh a+Gh d),Wq (Gl a+Gl d),())
def encI (node:Int) (st:NSt):Int×Int×Int×Int×Int×Bool×Unit:=match st with
 |none=>(node,0,0,0,0,false,())
 |some q=>(node,Gh q.1,Gl q.1,Gh q.2,Gl q.2,true,())
def ZyD (node:Int) (st:NSt):Bool×Zj:=match st with
 |none=>(false,((0:Int),V5,V5,()))
 |some q=>(true,(node,q.1,q.2,()))
theorem ZwM (a b:ZC):hul a b=hul b a:=by unfold hul;rw[Int.min_comm,Int.max_comm]
noncomputable def spn (b:Za) (c:ZB) (x:Zt) (s:ZC):ZC×ZC:=(ZbI b c x s).getD (V5,V5)
noncomputable def ZoG (b:Za) (c:ZB) (t:Zf) (x:Zt) (st:NSt):NSt :=
 if(atI (Ga t) (Gj x)).getD false=true then ZAg st (Zs2 ((atI (Gx t) (Gj x)).getD V5) (spn b c x ((atI (Gv t) (Gj x)).getD V5)).1) (spn b c x ((atI (Gv t) (Gj x)).getD V5)).2 else st
def ZBN (s:ZC):Prop:=(-1000000<=Gh s/\Gh s<=1000000)/\(-1000000<=Gl s/\Gl s<=1000000)
structure Zhy (n:Nat) (t:Zf):Prop where
 lr:(Ga t).length=n
 la:(Gx t).length=n
 ls:(Gv t).length=n
 sl:∀s∈Gv t,ZBN s
theorem Zvp (h:Z7 b) (H:Zhy (2*(Zg (K2 b)).length) t) (c:x∈Zz b) :
  ∃r a s,atI (Ga t) (Gj x)=some r/\atI (Gx t) (Gj x)=some a/\atI (Gv t) (Gj x)=some s/\ZBN s:=by
 have f:=(ZfC h c).1;obtain⟨r,F,_⟩:=Zit (l:=Ga t) f.1 (by rw[H.lr];omega);obtain⟨a,n,_⟩:=Zit (l:=Gx t) f.1 (by rw[H.la];omega);obtain⟨s,q,R⟩:=Zit (l:=Gv t) f.1 (by rw[H.ls];omega);exact⟨r,a,s,F,n,q,H.sl s R⟩
theorem Zt8 (node:Int) (st:NSt) (a s:ZC):∃j,Za9 (node,((encI node st).2.1,(encI node st).2.2.1,()),((encI node st).2.2.2.1,(encI node st).2.2.2.2.1,()),()) (encI node st).2.2.2.2.2.1 a s=some j/\(j.fst.fst,j.fst.snd.fst.fst,j.fst.snd.fst.snd.fst,j.fst.snd.snd.fst.fst,j.fst.snd.snd.fst.snd.fst,j.snd,())=encI node (ZAg st a s):=by
 cases st with
 |none=>exact⟨_,rfl,rfl⟩
 |some q=>exact⟨_,rfl,rfl⟩
variable {live:List Bool} {L:List Int} {node:Int}
theorem Zq7 (h:Z7 b) (f:VOk b v) (g:JQ c) (w:Zhy (2*(Zg (K2 b)).length) t) {m:Nat} (R:L[m]?=some (k:Int)) (l:(Zz b)[k]?=some x) (H:m<=1048576) (st:NSt) :
  X5 (v,live,()) c t L (m:Int) (encI node st).1 (encI node st).2.1 (encI node st).2.2.1 (encI node st).2.2.2.1 (encI node st).2.2.2.2.1 (encI node st).2.2.2.2.2.1=some (.inl (((m+1:Nat):Int),encI node (ZoG b c t x st))):=by
 have B:=(Ua.1 R).1;obtain⟨r,a,s,F,n,e,A⟩:=Zvp h w (Ud l);obtain⟨d,o,E,i,_⟩:=spans_eq h f g l A.1 A.2;have p:atI (ZW.links (GO ((v,live,()):Yc))) (k:Int)=some x:=by
  show atI (ZW.links v) (k:Int)=some x;rw[f.links,Zp];exact l
 have hsp:spn b c x s=(d,o):=by unfold spn;rw[i];rfl
 have y:ZoG b c t x st=if r=true then ZAg st (Zs2 a d) o else st:=by
  unfold ZoG;rw[F,n,e];simp only[UX,hsp]
 have u:(encI node st).1=node:=by cases st<;>rfl
 obtain⟨j,J,z⟩:=Zt8 node st (Zs2 a d) o;unfold X5;rw[QP,Zp,R,Bq,p,Bq,F,Bq,y];by_cases q:r=true
 ·rw[Uc q,Uc q,e,Bq]
  show(Zca v c (k:Int) s).bind _=_;rw[E,Bq,n,Bq];show(Za9 _ _ (Zs2 a d) o).bind _=_;rw[u,J,Bq,Y3 H,<-z]
 ·rw[Ue q,Ue q,Y3 H]
variable (st:NSt)
theorem Zsy {g:Yc} :
  X5 g c t L (L.length:Int) (encI node st).1 (encI node st).2.1 (encI node st).2.2.1 (encI node st).2.2.2.1 (encI node st).2.2.2.2.1 (encI node st).2.2.2.2.2.1=some (.inr (ZyD node st)):=by
 unfold X5;rw[Ue (Uf _)];cases st<;>rfl
theorem Zq6 (h:Z7 b) (g:VOk b v) (q:JQ c) (r:Zhy (2*(Zg (K2 b)).length) t) (n:L.length<=1048576) {f:Int->NSt->NSt}
  (a:∀y∈L,∃(k:Nat) (x:Zt),y=(k:Int)/\(Zz b)[k]?=some x/\∀st,f y st=ZoG b c t x st) (s:NSt) :
  ZA (λu=>X5 (v,live,()) c t L u.1 u.2.1 u.2.2.1 u.2.2.2.1 u.2.2.2.2.1 u.2.2.2.2.2.1 u.2.2.2.2.2.2.1) ((0:Int),encI node s)=some (ZyD node (V7 (λ_ y st=>f y st) 0 L s)):=by
 refine Zgv (l:=L) (by unfold Len;omega) (λst i=>(i,encI node st)) (f:=λ_ y st=>f y st) (s0:=s) (λ_ _=>True) trivial (λm y st H _ _=>⟨?_,trivial⟩) (λst _ e=>?_)
 ·have R:=(Ua.1 H).1
  obtain⟨k,x,rfl,j,d⟩:=a y (Ud H);rw[d,Y3];exact Zq7 h g q r H j (by omega) st
 ·rw[<-e]
  exact Zsy st
def encS (node:Int) (st:NSt) (i:Int):Bool×Int×Int×Int×Int×Int×Int×Unit:=match st with
 |none=>(false,i,0,0,0,0,0,())
 |some q=>(true,i,node,Gh q.1,Gl q.1,Gh q.2,Gl q.2,())
theorem Zrk (h:Z7 b) (y:VOk b v) (j:JQ c) (u:Zhy (2*(Zg (K2 b)).length) t) {L:Bool} (l:(Zz b)[k]?=some x) (H:live[k]?=some L) (m:k<=1048576) (st:NSt) :
  QX b c (Zz b) live t node (encS node st (k:Int)).1 (k:Int) (encS node st (k:Int)).2.2.1 (encS node st (k:Int)).2.2.2.1 (encS node st (k:Int)).2.2.2.2.1 (encS node st (k:Int)).2.2.2.2.2.1 (encS node st (k:Int)).2.2.2.2.2.2.1=some (.inl (encS node (if L=true then(if Gm x=node then ZoG b c t x st else st)else st) ((k+1:Nat):Int))):=by
 have p:=(Ua.1 l).1;obtain⟨r,a,s,F,n,g,A⟩:=Zvp h u (Ud l);obtain⟨d,o,E,i,_⟩:=spans_eq h y j l A.1 A.2;have hsp:spn b c x s=(d,o):=by unfold spn;rw[i];rfl
 have w:ZoG b c t x st=if r=true then ZAg st (Zs2 a d) o else st:=by
  unfold ZoG;rw[F,n,g];simp only[UX,hsp]
 unfold QX;rw[QP,Zp,l,Bq,Zp,H,Bq,Y3 m];by_cases Q:L=true
 ·rw[Uc Q,Uc Q]
  by_cases e:Gm x=node
  ·rw[Uc e,Uc e,F,Bq,w]
   by_cases f:r=true
   ·rw[Uc f,Uc f,g,Bq,i,Bq,n,Bq]
    cases st with
    |none=>rfl
    |some q =>
     show some (Sum.inl (true,((k+1:Nat):Int),node,Gh (hul (Zs2 a d) q.1),Gl (hul (Zs2 a d) q.1),Gh (hul o q.2),Gl (hul o q.2),()))=_;rw[ZwM (Zs2 a d),ZwM o];rfl
   ·rw[Ue f,Ue f]
    cases st<;>rfl
  ·rw[Ue e,Ue e]
   cases st<;>rfl
 ·rw[Ue Q,Ue Q]
  cases st<;>rfl
def toF (live:List Bool) (node:Int) (k:Nat) (x:Zt):List Int:=if(live[k]?).getD false=true then(if Gm x=node then[(k:Int)]else[])else[]
def toL (b:Za) (live:List Bool) (node:Int):List Int:=cat (toF live node) 0 (Zz b)
theorem ZFR (live:List Bool) (node:Int) (k:Nat) (x:Zt):(toF live node k x).length<=1:=by
 unfold toF;grind
theorem Zv9 (h:Z7 b) (live:List Bool) (node:Int) (n:Nat):(cat (toF live node) 0 ((Zz b).take n)).length<=6000:=by
 have d:=ZbK (f:=toF live node) (c:=1) (l:=(Zz b).take n) (m:=0) (λk x _=>ZFR live node k x);have H:=VN h;grind
theorem ZpQ (h:Z7 b) (a:VOk b v) (d:live.length=(Zz b).length) (node:Int):ZcF (v,live,()) node=some (toL b live node):=by
 have I:=VN h;have e:ZW.links (GO ((v,live,()):Yc))=Zz b:=a.links;have j:Yc.live ((v,live,()):Yc)=live:=rfl;unfold ZcF QL;have:=Qp (l:=Zz b) (ρ:=List Int) (toF live node) [] (step:=λu=>Xh (v,live,()) (node,()) u.1 u.2.1) (good:=toL b live node)
  (λk x H c=>by
   have f:live[k]?=some (live[k]'(by omega)):=Ub _;have n:=Zv9 h live node k;simp only[Xh,e,j,show(k:Int)<((Zz b).length:Int)from by omega,Ui,Zp,H,f,Bq,Zhl,Uw,Y3 (show k<=1048576 by omega)];unfold toF at *;rw[f];simp only[UX];by_cases Q:live[k]'(by omega)=true
   ·rw[Uc Q,Uc Q]
    by_cases q:Gm x=node
    ·rw[Uc (UU q),Uc q,Zk (by grind)]
    grind
   grind)
  (by simp only[Xh,e,Uf,Uh,Uw];rfl)
 rw[this];rfl
theorem Zt0 {β σ:Type} (f:β->σ->σ):∀(l:List β) (m n:Nat) (s:σ),V7 (λ_ y s=>f y s) m l s=V7 (λ_ y s=>f y s) n l s
 |[],_,_,_=>rfl
 |x::l,m,n,s=>by simp only[V7];exact Zt0 f l _ _ _
theorem ZmL {α β σ:Type} {g:Nat->α->List β} (f:β->σ->σ):∀(l:List α) (m:Nat) (s:σ),V7 (λ_ y s=>f y s) 0 (cat g m l) s=V7 (λk x s=>V7 (λ_ y s=>f y s) 0 (g k x) s) m l s
 |[],_,_=>rfl
 |x::l,m,s=>by
  show V7 (λ_ y s=>f y s) 0 (g m x++cat g (m+1) l) s=_;rw[ZiF,Zt0 f (cat g (m+1) l) _ 0,ZmL f l (m+1)];rfl
theorem Zl5 {α σ:Type} {f g:Nat->α->σ->σ}:∀(l:List α) (m:Nat) (s:σ),(∀k x s,l[k]?=some x->f (m+k) x s=g (m+k) x s)->V7 f m l s=V7 g m l s
 |[],_,_,_=>rfl
 |x::l,m,s,h=>by
  simp only[V7];have H:=h 0 x s rfl;rw[U7]at H;rw[H];refine Zl5 l (m+1) _ λk y s i=>?_;rw[show m+1+k=m+(k+1) by omega]
  simp_all
def Zhj (l:List Zj) (node:Int):NSt:=V7 (λ_ x st=>if Gi x=node then some (GM x,GR x)else st) 0 l none
def Zwi (l:List Zj):Prop:=∀(i j:Nat) (x y:Zj),l[i]?=some x->l[j]?=some y->Gi x=Gi y->i=j
variable {l:List Zj} {L:List Zt}
theorem Zti (a:Len l) {R:Bool×Zj}
  (H:ZA (λv=>QX b c L live t node v.1 v.2.1 v.2.2.1 v.2.2.2.1 v.2.2.2.2.1 v.2.2.2.2.2.1 v.2.2.2.2.2.2.1) (encS node (Zhj l node) 0)=some (.inr R)):Zcw b c L live l t node=some R:=by
 unfold Zcw;refine Zgv (l:=l) a (λst i=>encS node st i) (f:=λ_ x st=>if Gi x=node then some (GM x,GR x)else st) (s0:=none) (λ_ _=>True) trivial (λk x st h _ _=>⟨?_,trivial⟩) (λst _ m=>?_)
 ·have d:=(Ua.1 h).1
  have e:∀st:NSt,(encS node st (k:Int)).2.1=(k:Int):=λst=>by cases st<;>rfl
  show ZbG b c L live l t node (encS node st (k:Int)).1 (encS node st (k:Int)).2.1 (encS node st (k:Int)).2.2.1 (encS node st (k:Int)).2.2.2.1 (encS node st (k:Int)).2.2.2.2.1 (encS node st (k:Int)).2.2.2.2.2.1 (encS node st (k:Int)).2.2.2.2.2.2.1=_;rw[e];unfold ZbG;rw[QP,Zp,h,Bq];by_cases q:Gi x=node
  ·rw[Uc q,Uc q,q]
   rfl
  ·rw[Ue q,Ue q]
   cases st<;>rfl
 ·have s:st=Zhj l node:=m
  subst s;have e:∀st:NSt,(encS node st (l.length:Int)).2.1=(l.length:Int):=λst=>by cases st<;>rfl
  show ZbG b c L live l t node (encS node (Zhj l node) (l.length:Int)).1 (encS node (Zhj l node) (l.length:Int)).2.1 (encS node (Zhj l node) (l.length:Int)).2.2.1 (encS node (Zhj l node) (l.length:Int)).2.2.2.1 (encS node (Zhj l node) (l.length:Int)).2.2.2.2.1 (encS node (Zhj l node) (l.length:Int)).2.2.2.2.2.1 (encS node (Zhj l node) (l.length:Int)).2.2.2.2.2.2.1=_;rw[e];unfold ZbG;rw[Ue (Uf _),<-H];cases Zhj l node<;>rfl
theorem Zrj (h:Z7 b) (d:VOk b v) (q:JQ c) (j:live.length=(Zz b).length) (r:Zhy (2*(Zg (K2 b)).length) t) (s:NSt) :
  ZA (λv=>QX b c (Zz b) live t node v.1 v.2.1 v.2.2.1 v.2.2.2.1 v.2.2.2.2.1 v.2.2.2.2.2.1 v.2.2.2.2.2.2.1) (encS node s 0)=some (.inr (ZyD node (V7 (λk x st=>if(live[k]?).getD false=true then(if Gm x=node then ZoG b c t x st else st)else st) 0 (Zz b) s))):=by
 have I:=VN h;refine Zgv (l:=Zz b) (by unfold Len;omega) (λst i=>encS node st i) (f:=λk x st=>if(live[k]?).getD false=true then(if Gm x=node then ZoG b c t x st else st)else st) (s0:=s) (λ_ _=>True) trivial (λk x st a _ _=>⟨?_,trivial⟩) (λst _ m=>?_)
 ·have g:=(Ua.1 a).1
  have H:live[k]?=some (live[k]'(by omega)):=Ub _;have e:∀st:NSt,(encS node st (k:Int)).2.1=(k:Int):=λst=>by cases st<;>rfl
  have:=Zrk h d q r (node:=node) a H (by omega) st;rw[H,UX,Y3,<-this];grind
 ·rw[<-m]
  have e:∀st:NSt,(encS node st ((Zz b).length:Int)).2.1=((Zz b).length:Int):=λst=>by cases st<;>rfl
  show QX b c (Zz b) live t node (encS node st ((Zz b).length:Int)).1 (encS node st ((Zz b).length:Int)).2.1 _ _ _ _ _=_;rw[e];unfold QX;rw[Ue (Uf _)];cases st<;>rfl
theorem Ztj {node:Int}:∀(l:List Zj) (m:Nat) (st:NSt),(∀x∈l,Gi x≠node)->V7 (λ_ x st=>if Gi x=node then some (GM x,GR x)else st) m l st=st
 |[],_,_,_=>rfl
 |x::l,m,st,h=>by
  simp only[V7];rw[Ue (h x UJ)];exact Ztj l (m+1) st λy i=>h y (UM _ i)
theorem ZDn (d:Zwi l) {x:Zj} (h:l[i]?=some x) (f:Gi x=node):Zhj l node=some (GM x,GR x):=by
 have H:=(Ua.1 h).1;have e:l=l.take i++x::l.drop (i+1):=by
  have:=KH i l;rw[Kw H,(Ua.1 h).2]at this;exact this.symm
 have D:∀y∈l.drop (i+1),Gi y≠node:=λy a q=>by
  obtain⟨j,b⟩:=UC.1 a;rw[Ky]at b;have:=d i (i+1+j) x y h b (by rw[f,q]);omega
 unfold Zhj;rw[e,ZiF];simp only[V7];rw[Uc f];exact Ztj _ _ _ D
theorem Zv1 (a:Len l) (d:Zwi l) (node:Int):∃r:Zj×Bool,ZhF l node=some r/\(r.2=true->Zhj l node=some (GM r.1,GR r.1))/\(r.2=false->Zhj l node=none):=by
 unfold ZhF;rw[Vv a (λx=>decide (Gi x=node)) (λx _=>rfl),Bq];unfold Jw;cases e:l.findIdx? (λx=>decide (Gi x=node))with
 |none =>
  rw[Ue (by decide)];refine⟨_,rfl,(λq=>Bool.noConfusion q),λ_=>?_⟩;rw[List.findIdx?_eq_none_iff]at e;exact Ztj l 0 none λx h q=>by grind
 |some i =>
  rw[Kh]at e;obtain⟨H,g,_⟩:=e;have h:l[i]?=some l[i]:=Ub H;dsimp only;rw[QP,Zp,h,Bq];exact⟨_,rfl,λ_=>ZDn d h (of_decide_eq_true g),λq=>Bool.noConfusion q⟩
noncomputable def Za3 (b:Za) (c:ZB) (live:List Bool) (l:List Zj) (t:Zf) (node:Int):NSt:=V7 (λk x st=>if(live[k]?).getD false=true then(if Gm x=node then ZoG b c t x st else st)else st) 0 (Zz b) (Zhj l node)
theorem ZuK (h:Z7 b) (a:VOk b v) (q:JQ c) (H:live.length=(Zz b).length) (r:Zhy (2*(Zg (K2 b)).length) t) (s:Len l) (node:Int) :
  Zcw b c (Zz b) live l t node=some (ZyD node (Za3 b c live l t node)) :=
 Zti s (Zrj h a q H r (Zhj l node))
theorem Zox (h:Z7 b) (a:VOk b v) (q:JQ c) (j:live.length=(Zz b).length) (m:Zhy (2*(Zg (K2 b)).length) t) (s:Len l) (g:Zwi l) (node:Int) :
  Xy (v,live,()) c l t node=some (ZyD node (Za3 b c live l t node)):=by
 obtain⟨r,R,w,z⟩:=Zv1 s g node;have n:=Zv9 h live node (Zz b).length;rw[Uq]at n;have o:=ZpQ h a j node
 let f:Int->NSt->NSt:=λy st=>match (Zz b)[y.toNat]? with
  |some x=>ZoG b c t x st
  |none=>st
 have i:∀y∈toL b live node,∃(k:Nat) (x:Zt),y=(k:Int)/\(Zz b)[k]?=some x/\∀st,f y st=ZoG b c t x st:=λy u=>by
  obtain⟨k,x,p,H⟩:=XQ.1 u;rw[Us]at H;unfold toF at H;grind
 have K:=Zq6 h a q m (live:=live) (L:=toL b live node) (node:=node) (by unfold toL;omega) i (Zhj l node);have d:V7 (λ_ y st=>f y st) 0 (toL b live node) (Zhj l node)=Za3 b c live l t node:=by
  unfold toL Za3;rw[ZmL f];refine Zl5 _ _ _ λk x st p=>?_;rw[Us];unfold toF;split
  ·split
   ·show (match (Zz b)[(k:Int).toNat]? with
     |some x=>ZoG b c t x st
     | none=>st)=_
    grind
   ·rfl
  ·rfl
 rw[d]at K;unfold Xy;rw[R,Bq,o];cases e:r.2 with
 |true =>
  rw[Uc rfl];rw[w e]at K;exact K
 |false =>
  rw[Ue (by decide),Bq];rw[z e]at K;exact K
def cw (live:List Bool) (out:List Int) (v:Int) (k:Nat) (x:Zt):Nat:=if(live[k]?).getD false=true then(if Gm x=v then(if Gj x∈out then 0 else 1)else 0)else 0
def Zlc (live:List Bool) (L:List Zt) (out:List Int) (v:Int):Nat:=V7 (λk x s=>s+cw live out v k x) 0 L 0
def nxt (live:List Bool) (L:List Zt) (n:Nat) (out:List Int):Option Nat:=(List.range n).find? λv=>decide ((v:Int) ∉ out)&&decide (Zlc live L out (v:Int)=0)
def ZvN (live:List Bool) (L:List Zt) (n:Nat):Nat->List Int->List Int×Bool
 |0,out=>(out,true)
 |m+1,out=>match nxt live L n out with
  |none=>([],false)
  |some v=>ZvN live L n m (out++[(v:Int)])
def ZnS (n:Nat) (p:Nat->Bool):List Bool:=(List.range n).map p
variable {p:Nat->Bool}
theorem ZgY {v:Nat} (h:v<n:=by omega):(ZnS n p)[v]?=some (p v):=by
 unfold ZnS;grind
theorem Zpf (n:Nat) (p:Nat->Bool):(ZnS n p).length=n:=by unfold ZnS;simp
theorem Zw1 {q:Nat->Bool} {b:Bool} (l:i<n) (d:q i=b) (f:∀j,j≠i->q j=p j):List.set (ZnS n p) i b=ZnS n q:=by
 apply Uy;intro j;rw[UR];by_cases c:i=j
 ·subst c
  rw[Uc rfl,Uc (by rw[Zpf];exact l),ZgY l,d]
 ·rw[Ue c]
  by_cases h:j<n
  ·rw[ZgY h,ZgY h,f j (λe=>c e.symm)]
  ·rw[UA (by rw[Zpf];omega),UA (by rw[Zpf];omega)]
theorem ZrK (n:Nat):List.replicate n false=ZnS n λ_=>false:=by
 apply Uy;intro j;by_cases b:j<n
 ·rw[ZgY b,Kb,Uc b]
 ·rw[UA (by grind),UA (by rw[Zpf];omega)]
structure ZyA (live:List Bool) (L:List Zt) (n:Nat):Prop where
 few:L.length<=6000
 ll:live.length=L.length
 n0:n<=1000
 bd:∀x∈L,(0<=Gj x/\Gj x<(n:Int))/\0<=Gm x/\Gm x<(n:Int)
variable {out:List Int}
theorem Zew {v:Int} (l:L[k]?=some x):Zlc live (L.take (k+1)) out v=Zlc live (L.take k) out v+cw live out v k x:=by
 unfold Zlc;rw[Zgu l]
theorem Zyq (h:ZyA live L n) {Q:(List Int×List Bool×Unit)⊕(List Int×Bool)}
  (g:ZA (λv=>X8 (n:Int) out (ZnS n λv=>decide ((v:Int)∈out)) (ZnS n λv=>decide (Zlc live L out (v:Int)≠0)) v.1) ((0:Int),())=some (.inr Q)) :
  ZA (λv=>ZaT (n:Int) L live out (ZnS n λv=>decide ((v:Int)∈out)) v.1 v.2.1) ((0:Int),List.replicate (Int.toNat (n:Int)) false,())=some Q:=by
 have i:=h.few;have H:=h.ll;refine XJ L.length (λk v=>v=((k:Int),ZnS n (λv=>decide (Zlc live (L.take k) out (v:Int)≠0)),())) _ ?_ ?_ ?_
 ·rw[Up,ZrK]
  rfl
 ·rintro k _ b rfl
  have l:L[k]?=some (L[k]'(by omega)):=Ub _;have f:live[k]?=some (live[k]'(by omega)):=Ub _;generalize L[k]'(by omega)=x at l;generalize live[k]'(by omega)=d at f;obtain⟨⟨G,F⟩,t0,V⟩:=h.bd x (Ud l);have m:atI (ZnS n λv=>decide ((v:Int)∈out)) (Gj x)=some (decide (Gj x∈out)):=by
   refine Yr G ?_;rw[ZgY,show((Gj x).toNat:Int)=Gj x by omega]
  have o:∀p:Nat->Bool,atI (ZnS n p) (Gm x)=some (p (Gm x).toNat):=λp=>Yr t0 (ZgY);refine .inl ⟨(((k+1:Nat):Int),ZnS n (λv=>decide (Zlc live (L.take (k+1)) out (v:Int)≠0)),()),?_,rfl⟩;simp only[ZaT,show(k:Int)<(L.length:Int)from by omega,Ui,Zp,l,f,Bq,m,o,Y3 (show k<=1048576 by omega)];have c:(∀v:Nat,cw live out (v:Int) k x=0)->ZnS n (λv=>decide (Zlc live (L.take (k+1)) out (v:Int)≠0))=ZnS n (λv=>decide (Zlc live (L.take k) out (v:Int)≠0)):=λT=>by
   unfold ZnS;refine Kj λv _=>?_;rw[Zew l,T,U7]
  by_cases a:d=true
  ·rw[Uc a]
   by_cases e:Gj x∈out
   ·rw[Uc (UU e),c (λv=>by unfold cw;grind)]
   ·rw[Ue (by grind)]
    rw[Zw1 (q:=λv=>decide (Zlc live (L.take (k+1)) out (v:Int)≠0)) (by omega) ?_ ?_]
    ·rw[Ul,Zew l]
     unfold cw;grind
    ·intro j r
     rw[Zew l];unfold cw;grind
  ·rw[Ue a,c (λv=>by unfold cw;grind)]
 ·rintro _ rfl
  show ZaT (n:Int) L live out (ZnS n λv=>decide ((v:Int)∈out)) (L.length:Int) (ZnS n λv=>decide (Zlc live (L.take L.length) out (v:Int)≠0))=_;unfold ZaT;grind
theorem ZBf (h:ZyA live L n) (x:out.length<=1000:=by omega) :
  ZA (λv=>X8 (n:Int) out (ZnS n λv=>decide ((v:Int)∈out)) (ZnS n λv=>decide (Zlc live L out (v:Int)≠0)) v.1) ((0:Int),()) =
   some (.inr (match nxt live L n out with
    |none=>.inr ([],false)
    | some v=>.inl (out++[(v:Int)],ZnS n (λu=>decide ((u:Int)∈out++[(v:Int)])),()))):=by
 have f:=h.n0;have step:∀k:Nat,k<n->(decide ((k:Int) ∉ out)&&decide (Zlc live L out (k:Int)=0))=false->X8 (n:Int) out (ZnS n λv=>decide ((v:Int)∈out)) (ZnS n λv=>decide (Zlc live L out (v:Int)≠0)) (k:Int)=some (.inl (((k+1:Nat):Int),())):=λk H g=>by
  unfold X8;rw[QP,Zp,ZgY H,Bq,Y3];by_cases q:(k:Int)∈out
  ·grind
  ·rw[Ue (by grind),Zp,ZgY H,Bq]
   grind
 cases e:nxt live L n out with
 |none =>
  unfold nxt at e;rw[List.find?_range_eq_none]at e;refine XJ n (λk v=>v=((k:Int),())) _ rfl ?_ ?_
  ·grind
  ·rintro _ rfl
   show X8 _ _ _ _ (n:Int)=_;unfold X8;grind
 |some v =>
  unfold nxt at e;rw[List.find?_range_eq_some]at e;obtain⟨g,a,w⟩:=e;have a:=KG.1 a;rw[Ur,Ul,Ul]at g;refine XJ v (λk u=>u=((k:Int),())) _ rfl ?_ ?_
  ·grind
  ·rintro _ rfl
   show X8 _ _ _ _ (v:Int)=_;unfold X8;rw[QP,Zp,ZgY a,Bq,Ue (by grind),Zp,ZgY a,Bq,Ue (by grind),QQ,Zk (by grind),Up];rw[Zw1 (q:=λu=>decide ((u:Int)∈out++[(v:Int)])) a (UU (Uu.2 (.inr (Ux.2 rfl)))) (λj b=>by
    grind)]
theorem ZqH {live:List Bool} {L:List Zt} {n:Nat} (h:ZyA live L n):∀(m:Nat) (out:List Int),out.length+m=n->
  ZA (λv=>Jt (n:Int) L live v.1 v.2.1) (out,ZnS n (λu=>decide ((u:Int)∈out)),())=some (ZvN live L n m out)
 |0,out,R=>by
  refine Y1 ?_;show Jt (n:Int) L live out _=_;unfold Jt;rw[QQ];rfl
 |m+1,out,R=>by
  have f:=h.n0;have c:=Zyq h (ZBf h (out:=out));have q:Jt (n:Int) L live out (ZnS n (λu=>decide ((u:Int)∈out)))=some (match nxt live L n out with
    |none=>.inr ([],false)
    | some v=>.inl (out++[(v:Int)],ZnS n (λu=>decide ((u:Int)∈out++[(v:Int)])),())):=by
   unfold Jt;grind
  unfold ZvN;cases e:nxt live L n out with
  |none =>
   rw[e]at q;exact Y1 q
  |some v =>
   rw[e]at q;exact(Xk q).trans (ZqH h m (out++[(v:Int)]) (by grind))
theorem Zth (h:ZyA live L n):ZhR (n:Int) L live=some (ZvN live L n n []):=by
 have f:=h.n0;unfold ZhR;rw[Ra,Ra,Ra,Ra,Up,ZrK];have:=ZqH h n [] (by simp);simpa using this
def Zmp (n:Nat) (p:Nat->Int):List Int:=(List.range n).map p
variable {p:Nat->Int}
theorem ZgW {v:Nat} (h:v<n:=by omega):(Zmp n p)[v]?=some (p v):=by
 unfold Zmp;grind
theorem ZgX (n:Nat) (p:Nat->Int):(Zmp n p).length=n:=by unfold Zmp;simp
theorem ZsN {q:Nat->Int} {b:Int} (l:i<n) (d:q i=b) (f:∀j,j≠i->q j=p j):List.set (Zmp n p) i b=Zmp n q:=by
 apply Uy;intro j;rw[UR];by_cases c:i=j
 ·subst c
  rw[Uc rfl,Uc (by rw[ZgX];exact l),ZgW l,d]
 ·rw[Ue c]
  by_cases h:j<n
  ·rw[ZgW h,ZgW h,f j (λe=>c e.symm)]
  ·rw[UA (by rw[ZgX];omega),UA (by rw[ZgX];omega)]
def Zq4 (live:List Bool) (node:Int) (k:Nat) (x:Zt):List Int:=if(live[k]?).getD false=true then(if Gj x=node then[(k:Int)]else[])else[]
def Zt3 (b:Za) (live:List Bool) (node:Int):List Int:=cat (Zq4 live node) 0 (Zz b)
theorem Zz0 (live:List Bool) (node:Int) (k:Nat) (x:Zt):(Zq4 live node k x).length<=1:=by
 unfold Zq4;grind
theorem Zt4 (h:Z7 b) (live:List Bool) (node:Int) (n:Nat):(cat (Zq4 live node) 0 ((Zz b).take n)).length<=6000:=by
 have d:=ZbK (f:=Zq4 live node) (c:=1) (l:=(Zz b).take n) (m:=0) (λk x _=>Zz0 live node k x);have H:=VN h;grind
theorem Zsw (h:Z7 b) (a:VOk b v) (d:live.length=(Zz b).length) (node:Int):ZfO (v,live,()) node=some (Zt3 b live node):=by
 have I:=VN h;have e:ZW.links (GO ((v,live,()):Yc))=Zz b:=a.links;have j:Yc.live ((v,live,()):Yc)=live:=rfl;unfold ZfO Qt;have:=Qp (l:=Zz b) (ρ:=List Int) (Zq4 live node) [] (step:=λu=>Y9 (v,live,()) (node,()) u.1 u.2.1) (good:=Zt3 b live node)
  (λk x H c=>by
   have f:live[k]?=some (live[k]'(by omega)):=Ub _;have n:=Zt4 h live node k;simp only[Y9,e,j,show(k:Int)<((Zz b).length:Int)from by omega,Ui,Zp,H,f,Bq,ZfP,Uw,Y3 (show k<=1048576 by omega)];unfold Zq4 at *;rw[f];simp only[UX];by_cases Q:live[k]'(by omega)=true
   ·rw[Uc Q,Uc Q]
    by_cases q:Gj x=node
    ·rw[Uc (UU q),Uc q,Zk (by grind)]
    grind
   grind)
  (by simp only[Y9,e,Uf,Uh,Uw];rfl)
 rw[this];rfl
theorem ZxU (f:n<=1000):Zbu (Zmp n p) 0=some (match (List.range n).find? (λv=>decide (p v=0)) with
  |none=>-1
  | some v=>(v:Int)):=by
 unfold Zbu;cases e:(List.range n).find? (λv=>decide (p v=0))with
 |none =>
  rw[List.find?_range_eq_none]at e;refine XJ n (λk v=>v=((k:Int),())) _ rfl ?_ ?_
  ·rintro k _ H rfl
   have T:=e k H;rw[UT,Kr]at T;simp only[Qv,ZgX,show(k:Int)<(n:Int)from by omega,Ui,Zp,ZgW H,Bq,Y3 (show k<=1048576 by omega)];grind
  ·rintro _ rfl
   simp only[Qv,ZgX,Uf,Uh]
 |some v =>
  rw[List.find?_range_eq_some]at e;obtain⟨g,a,w⟩:=e;have a:=KG.1 a;rw[Ul]at g;refine XJ v (λk u=>u=((k:Int),())) _ rfl ?_ ?_
  ·rintro k _ H rfl
   have T:=w k H;rw[UT,Kr]at T;simp only[Qv,ZgX,show(k:Int)<(n:Int)from by omega,Ui,Zp,ZgW (show k<n by omega),Bq,Y3 (show k<=1048576 by omega)];grind
  ·rintro _ rfl
   simp only[Qv,ZgX,show(v:Int)<(n:Int)from by omega,Ui,Zp,ZgW a,Bq];rw[Uc g.symm]
def Zwk (live:List Bool) (k:Nat) (x:Zt):List Int:=if(live[k]?).getD false=true then[(k:Int)]else[]
theorem Zwl (live:List Bool) (k:Nat) (x:Zt):(Zwk live k x).length<=1:=by
 unfold Zwk;split<;>simp
theorem Zsg (h:Z7 b) (a:VOk b v) (q:live.length=(Zz b).length):Xz (v,live,()) ()=some (cat (Zwk live) 0 (Zz b)):=by
 have I:=VN h;have e:ZW.links (GO ((v,live,()):Yc))=Zz b:=a.links;have j:Yc.live ((v,live,()):Yc)=live:=rfl;unfold Xz;exact Qp (l:=Zz b) (ρ:=List Int) (Zwk live) [] (step:=λu=>Y6 (v,live,()) u.1 u.2.1) (good:=cat (Zwk live) 0 (Zz b))
  (λk x d g=>by
   have H:live[k]?=some (live[k]'(by omega)):=Ub _;have n:=ZbK (f:=Zwk live) (c:=1) (l:=(Zz b).take k) (m:=0) (λk x _=>Zwl live k x);rw[Uk]at n;simp only[Y6,e,j,show(k:Int)<((Zz b).length:Int)from by omega,Ui,Zp,d,H,Bq,ZeS,Uw,Y3 (show k<=1048576 by omega)];unfold Zwk at *;rw[H];simp only[UX];by_cases Q:live[k]'(by omega)=true
   ·rw[Uc Q,Uc Q,Zk (by grind)]
   grind)
  (by simp only[Y6,e,Uf,Uh,Uw])
def ZyB (L:List Zt) (c:Int) (y:Int) (l:List Int):List Int:=match L[y.toNat]? with
 |some x=>List.set l (Gm x).toNat ((l[(Gm x).toNat]?).getD 0+c)
 |none=>l
theorem ZsB {c:Int} (h:L[k]?=some x) (l:List Int):ZyB L c (k:Int) l=List.set l (Gm x).toNat ((l[(Gm x).toNat]?).getD 0+c):=by
 unfold ZyB;grind
theorem Zrz {live:List Bool} {L:List Zt} {n:Nat} (h:ZyA live L n):∀k,k<=L.length->V7 (λk x l=>V7 (λ_ y l=>ZyB L 1 y l) 0 (Zwk live k x) l) 0 (L.take k) (List.replicate n 0)=Zmp n λv=>(Zlc live (L.take k) [] (v:Int):Int)
 |0,_=>by
  rw[Kt];apply Uy;intro j;by_cases b:j<n
  ·rw[ZgW b]
   simp only[V7];rw[Kb,Uc b];rfl
  ·rw[UA (by simp only[V7];grind),UA (by rw[ZgX];omega)]
 |k+1,c=>by
  have m:=h.ll;have H:L[k]?=some (L[k]'(by omega)):=Ub _;have f:live[k]?=some (live[k]'(by omega)):=Ub _;generalize L[k]'(by omega)=x at H;generalize live[k]'(by omega)=a at f;obtain⟨_,t0,V⟩:=h.bd x (Ud H);rw[Zgu H,Zrz h k (by omega)];unfold Zwk;rw[f,UX];by_cases q:a=true
  ·rw[Uc q]
   show ZyB L 1 (k:Int) _=_;rw[ZsB H,ZgW,UX];refine ZsN (by omega) ?_ (λj b=>?_)
   ·rw[Zew H]
    unfold cw;grind
   ·rw[Zew H]
    unfold cw;grind
  ·rw[Ue q]
   show Zmp n _=Zmp n _;unfold Zmp;refine Kj λv _=>?_;rw[Zew H];unfold cw;grind
theorem ZxL (h:Z7 b) (t:VOk b v) (j:ZyA live (Zz b) n) {R:List Int×Bool}
  (B:ZA (λu=>Xu (v,live,()) (Zmp n λu=>(Zlc live (Zz b) [] (u:Int):Int)) u.1 u.2.1 u.2.2.1) (([]:List Int),(0:Int),Zmp n (λu=>(Zlc live (Zz b) [] (u:Int):Int)),())=some (.inr R)) :
  ZA (λu=>QZ (v,live,()) (cat (Zwk live) 0 (Zz b)) u.1 u.2.1) ((0:Int),List.replicate n (0:Int),())=some R:=by
 have I:=j.few;have E:ZW.links (GO ((v,live,()):Yc))=Zz b:=t.links;have w:=ZbK (f:=Zwk live) (c:=1) (l:=Zz b) (m:=0) (λk x _=>Zwl live k x);refine Zgv (l:=cat (Zwk live) 0 (Zz b)) (by unfold Len;omega) (λs i=>(i,s,())) (f:=λ_ y s=>ZyB (Zz b) 1 y s) (s0:=List.replicate n (0:Int)) (λk s=>s.length=n/\∀z∈s,0<=z/\z<=(k:Int)) ⟨UQ,λz T=>by grind⟩ (λm y s g p _=>?_) (λs p e=>?_)
 ·obtain⟨r,A⟩:=p
  have D:=(Ua.1 g).1;obtain⟨k,x,d,a⟩:=XQ.1 (Ud g);rw[Us]at a;have q:y=(k:Int):=by
   unfold Zwk at a;grind
  subst q;obtain⟨_,t0,V⟩:=j.bd x (Ud d);have T:s[(Gm x).toNat]?=some (s[(Gm x).toNat]'(by omega)):=Ub _;have o:=A _ (Ud T);generalize s[(Gm x).toNat]'(by omega)=z at T o;have C:ZyB (Zz b) 1 (k:Int) s=List.set s (Gm x).toNat (z+1):=by rw[ZsB d,T];rfl
  refine⟨?_,?_⟩
  ·show QZ (v,live,()) _ (m:Int) s=_
   unfold QZ;rw[QP,Zp,g,Bq,E,Zp,d,Bq,Yr t0 T,Bq,QR (n:=z+1),C]
  grind
 ·rw[ZmL (λy s=>ZyB (Zz b) 1 y s)]at e
  have H:=Zrz j (Zz b).length (UO _);rw[Uq]at H;rw[H]at e;subst e;show QZ (v,live,()) _ ((cat (Zwk live) 0 (Zz b)).length:Int) _=_;unfold QZ;grind
def dw (live:List Bool) (w v:Int) (k:Nat) (x:Zt):Nat:=if(live[k]?).getD false=true then(if Gm x=v then(if Gj x=w then 1 else 0)else 0)else 0
def ZEt (live:List Bool) (L:List Zt) (w v:Int):Nat:=V7 (λk x s=>s+dw live w v k x) 0 L 0
variable {w:Int}
theorem ZmA {v:Int} (l:L[k]?=some x):ZEt live (L.take (k+1)) w v=ZEt live (L.take k) w v+dw live w v k x:=by
 unfold ZEt;rw[Zgu l]
theorem ZB8 (live:List Bool) (c:w ∉ out) (v:Int) (k:Nat) (x:Zt):cw live out v k x=cw live (out++[w]) v k x+dw live w v k x:=by
 unfold cw dw;grind
theorem Znu (live:List Bool) (L:List Zt) {out:List Int} {w:Int} (c:w ∉ out) (v:Int):∀k,k<=L.length->Zlc live (L.take k) out v=Zlc live (L.take k) (out++[w]) v+ZEt live (L.take k) w v
 |0,_=>rfl
 |k+1,H=>by
  have l:L[k]?=some (L[k]'(by omega)):=Ub _;rw[Zew l,Zew l,ZmA l,Znu live L c v k (by omega),ZB8 live c v k];omega
theorem ZEw (live:List Bool) (L:List Zt) (out:List Int) (v:Int):∀(m k:Nat) (x:Zt),m<=L.length->k<m->L[k]?=some x->cw live out v k x<=Zlc live (L.take m) out v
 |0,k,x,_,H,_=>by omega
 |m+1,k,x,R,H,l=>by
  have i:L[m]?=some (L[m]'(by omega)):=Ub _;rw[Zew i];by_cases e:k=m
  ·grind
  ·have:=ZEw live L out v m k x (by omega) (by omega) l
   omega
noncomputable def opn (live:List Bool) (L:List Zt) (out:List Int) (u:Nat):Int:=if(u:Int)∈out then -1 else(Zlc live L out (u:Int):Int)
def Clo (live:List Bool) (L:List Zt) (out:List Int):Prop:=∀u∈out,Zlc live L out u=0
theorem Zwt {live:List Bool} {L:List Zt} {n:Nat} (h:ZyA live L n) {out:List Int} {w:Nat} (b:w<n) (p:(w:Int) ∉ out) (d:Zlc live L out (w:Int)=0) (a:Clo live L out):∀k,k<=L.length->
  V7 (λk x l=>V7 (λ_ y l=>ZyB L (-1) y l) 0 (Zq4 live (w:Int) k x) l) 0 (L.take k) (List.set (Zmp n (opn live L out)) w (-1))=Zmp n λu=>if(u:Int)∈out++[(w:Int)]then -1 else(Zlc live L out (u:Int):Int)-(ZEt live (L.take k) (w:Int) (u:Int):Int)
 |0,_=>by
  rw[Kt];simp only[V7];refine ZsN b ?_ (λj i=>?_)
  ·grind
  ·unfold opn
   by_cases q:(j:Int)∈out
   ·grind
   ·rw[Ue q,Ue (λz=>by
     grind)]
    show _-((0:Nat):Int)=_;omega
 |k+1,r=>by
  have m:=h.ll;have H:L[k]?=some (L[k]'(by omega)):=Ub _;have f:live[k]?=some (live[k]'(by omega)):=Ub _;generalize L[k]'(by omega)=x at H;generalize live[k]'(by omega)=v at f;obtain⟨_,t0,V⟩:=h.bd x (Ud H);rw[Zgu H,Zwt h b p d a k (by omega)];have e:=ZEw live L out (Gm x) L.length k x (UO _) (by omega) H;rw[Uq]at e;have c:(∀u:Int,dw live (w:Int) u k x=0)->Zmp n (λu=>if(u:Int)∈out++[(w:Int)]then -1 else(Zlc live L out (u:Int):Int)-(ZEt live (L.take k) (w:Int) (u:Int):Int))=Zmp n λu=>if(u:Int)∈out++[(w:Int)]then -1 else(Zlc live L out (u:Int):Int)-(ZEt live (L.take (k+1)) (w:Int) (u:Int):Int):=λT=>by
   unfold Zmp;refine Kj λu _=>?_;rw[ZmA H,T,U7]
  unfold Zq4;rw[f,UX];by_cases q:v=true
  ·rw[Uc q]
   by_cases Q:Gj x=(w:Int)
   ·rw[Uc Q]
    have g:cw live out (Gm x) k x=1:=by
     unfold cw;grind
    have o:Gm x ∉ out++[(w:Int)]:=λz=>by
     rcases Uu.1 z with z|z
     ·have:=a _ z;omega
     grind
    show ZyB L (-1) (k:Int) _=_;rw[ZsB H,ZgW,UX,show((Gm x).toNat:Int)=Gm x by omega,Ue o];refine ZsN (by omega) ?_ (λj i=>?_)
    ·rw[show((Gm x).toNat:Int)=Gm x by omega,Ue o,ZmA H]
     unfold dw;grind
    ·have N:dw live (w:Int) (j:Int) k x=0:=by
      unfold dw;grind
     rw[ZmA H,N,U7]
   ·rw[Ue Q]
    exact c λu=>by unfold dw;grind
  ·rw[Ue q]
   exact c λu=>by unfold dw;grind
theorem Zzc (live:List Bool) (L:List Zt) (out:List Int) (v:Int):∀k,k<=L.length->Zlc live (L.take k) out v<=k
 |0,_=>UO _
 |k+1,H=>by
  have l:L[k]?=some (L[k]'(by omega)):=Ub _;rw[Zew l];have:=Zzc live L out v k (by omega);have d:cw live out v k (L[k]'(by omega))<=1:=by
   unfold cw;split
   ·split
    ·split<;>omega
    ·omega
   ·omega
  omega
theorem ZGU (h:ZyA live L n) (out:List Int) (u:Nat):-1<=opn live L out u/\opn live L out u<=6000:=by
 have d:=Zzc live L out (u:Int) L.length (UO _);have f:=h.few;rw[Uq]at d;unfold opn;split<;>omega
theorem ZB3 (f:w ∉ out) (c:Zlc live L out w=0) (h:Clo live L out):Clo live L (out++[w]):=by
 intro u a;have s:=Znu live L f u L.length (UO _);rw[Uq]at s;rcases Uu.1 a with q|q
 ·have:=h u q
  omega
 ·rw[Ux.1 q]at s ⊢
  omega
theorem Zz1 {y:Int} (i:y∈Zt3 b live w):∃(k:Nat) (x:Zt),y=(k:Int)/\(Zz b)[k]?=some x/\Gj x=w:=by
 obtain⟨k,x,l,H⟩:=XQ.1 i;rw[Us]at H;unfold Zq4 at H;split at H
 ·split at H
  ·rename_i q
   exact⟨k,x,Ux.1 H,l,q⟩
  ·cases H
 ·cases H
theorem ZCa (h:Z7 b) (D:VOk b v) (j:ZyA live (Zz b) n) {w:Nat} (F:w<n) (r:(w:Int) ∉ out) (t:Zlc live (Zz b) out (w:Int)=0) (L:Clo live (Zz b) out) (i:Int) :
  ZA (λu=>QY (v,live,()) out i (w:Int) (Zt3 b live (w:Int)) u.1 u.2.1) ((0:Int),List.set (Zmp n (opn live (Zz b) out)) w (-1:Int),()) =
   some (.inl (out++[(w:Int)],Wq (i+1),Zmp n (opn live (Zz b) (out++[(w:Int)])),())):=by
 have I:=j.few;have E:ZW.links (GO ((v,live,()):Yc))=Zz b:=D.links;have p:(Zt3 b live (w:Int)).length<=6000:=by
  have:=Zt4 h live (w:Int) (Zz b).length;rw[Uq]at this;exact this
 refine Zgv (l:=Zt3 b live (w:Int)) (by unfold Len;omega) (λs i=>(i,s,())) (f:=λ_ y s=>ZyB (Zz b) (-1) y s) (s0:=List.set (Zmp n (opn live (Zz b) out)) w (-1:Int)) (λk s=>s.length=n/\∀z∈s,-1-(k:Int)<=z/\z<=6000) ⟨by rw[UH,ZgX],λz T=>?_⟩ (λm y s a d _=>?_) (λs d e=>?_)
 ·rcases U5 T with q|q
  ·unfold Zmp at q
   obtain⟨u,_,rfl⟩:=Ke.1 q;have:=ZGU j out u;omega
  ·omega
 ·obtain⟨g,A⟩:=d
  have R:=(Ua.1 a).1;obtain⟨k,x,rfl,H,_⟩:=Zz1 (Ud a);obtain⟨_,t0,V⟩:=j.bd x (Ud H);have T:s[(Gm x).toNat]?=some (s[(Gm x).toNat]'(by omega)):=Ub _;have o:=A _ (Ud T);generalize s[(Gm x).toNat]'(by omega)=z at T o;have C:ZyB (Zz b) (-1) (k:Int) s=List.set s (Gm x).toNat (z-1):=by rw[ZsB H,T];rfl
  refine⟨?_,?_⟩
  ·show QY (v,live,()) out i (w:Int) _ (m:Int) s=_
   unfold QY;rw[QP,Zp,a,Bq,E,Zp,H,Bq,Yr t0 T,Bq,QR (n:=z-1),C]
  ·rw[C]
   refine⟨by rw[UH];exact g,λZ c=>?_⟩;rcases U5 c with q|q
   ·have:=A Z q;omega
   ·omega
 ·have N:=Zwt j F r t L (Zz b).length (UO _)
  unfold Zt3 at e;rw[ZmL (λy s=>ZyB (Zz b) (-1) y s)]at e;rw[Uq]at N;rw[N]at e;subst e;show QY (v,live,()) out i (w:Int) _ ((Zt3 b live (w:Int)).length:Int) _=_;unfold QY;rw[Ue (Uf _)];congr 6;unfold Zmp;refine Kj λu _=>?_;have B:=Znu live (Zz b) r (u:Int) (Zz b).length (UO _);rw[Uq]at B;unfold opn;split
  ·rfl
  ·omega
theorem ZGT (live:List Bool) (L:List Zt) (n:Nat) (out:List Int):(List.range n).find? (λv=>decide (opn live L out v=0))=nxt live L n out:=by
 unfold nxt;congr 1;funext v;unfold opn;by_cases q:(v:Int)∈out
 ·rw[Uc q,decide_eq_false (by omega),decide_eq_false (λz=>z q),KX]
 ·rw[Ue q,UU q,KU,Kz]
  omega
theorem ZpX {b:Za} (h:Z7 b) {v:ZW} (a:VOk b v) {live:List Bool} {n:Nat} (j:ZyA live (Zz b) n) {l0:List Int} (k:l0.length=n):∀(m:Nat) (out:List Int),out.length+m=n->Clo live (Zz b) out->
  ZA (λu=>Xu (v,live,()) l0 u.1 u.2.1 u.2.2.1) (out,(out.length:Int),Zmp n (opn live (Zz b) out),())=some (.inr (ZvN live (Zz b) n m out))
 |0,out,R,L=>by
  refine Y1 ?_;show Xu (v,live,()) l0 out (out.length:Int) _=_;unfold Xu;rw[QQ];rfl
 |m+1,out,R,L=>by
  have f:=j.n0;have l:=ZxU (p:=opn live (Zz b) out) j.n0;rw[ZGT]at l;unfold ZvN;cases e:nxt live (Zz b) n out with
  |none =>
   rw[e]at l;refine Y1 ?_;show Xu (v,live,()) l0 out (out.length:Int) _=_;unfold Xu;rw[QP,l];rfl
  |some w =>
   rw[e]at l;have E:=e;unfold nxt at E;rw[List.find?_range_eq_some]at E;obtain⟨g,c,_⟩:=E;have c:=KG.1 c;rw[Ur,Ul,Ul]at g;have H:Xu (v,live,()) l0 out (out.length:Int) (Zmp n (opn live (Zz b) out))=some (.inl (out++[(w:Int)],((out++[(w:Int)]).length:Int),Zmp n (opn live (Zz b) (out++[(w:Int)])),())):=by
    unfold Xu;rw[QP,l,Bq];show(if(w:Int)<0 then _ else _)=_;rw[QQ,Zp,ZgW c,Bq,Zk (by simp only[Um,Uo];omega),Zsw h a j.ll,Bq,Up,ZCa h a j c g.1 g.2 L,Y3];rw[Ug];rfl
   exact(Xk H).trans (ZpX h a j k m (out++[(w:Int)]) (by rw[Ug];simp only[Um,Uo];omega) (ZB3 g.1 g.2 L))
theorem Zsz (h:Z7 b) (a:VOk b v) (j:ZyA live (Zz b) n) (f:Xe v=some (n:Int)):Zba (v,live,())=some (ZvN live (Zz b) n n []):=by
 have d:=j.n0;unfold Zba;show(Xe v).bind _=_;rw[f,Bq,Ra,Ra,Ra,Ra,Zsg h a j.ll,Bq,Up];refine ZxL h a j ?_;have:=ZpX h a j (l0:=Zmp n λu=>(Zlc live (Zz b) [] (u:Int):Int)) (ZgX _ _) n [] (by simp) (λu H=>by cases H);have e:Zmp n (opn live (Zz b) [])=Zmp n λu=>(Zlc live (Zz b) [] (u:Int):Int):=by
  unfold Zmp;refine Kj λu _=>?_;unfold opn;rw[Ue (by simp)]
 rw[e]at this;exact this
abbrev YD (b:Za):Nat:=2*(Zg (K2 b)).length
abbrev Jg (b:Za) (br:List Int):List Bool:=Zgp (Zz b).length br
def Jm (b:Za) (br:List Int):List Int×Bool:=ZvN (Jg b br) (Zz b) (YD b) (YD b) []
theorem nN (b:Za):YD b=2*(Zg (K2 b)).length:=rfl
theorem ZgZ (h:Z7 b):YD b<=156:=by
 have:=ZQ h.ok.1.few;have:=nN b;omega
theorem ZLv (h:Z7 b) (br:List Int):ZyA (Jg b br) (Zz b) (YD b) where
 few:=VN h
 ll:=ZhW _ _
 n0:=by have:=ZgZ h;omega
 bd:=λx l=>by
  have:=ZfC h l;have:=nN b;omega
theorem Zpg (h:Z7 b) (a:VOk b v):Xe v=some (YD b:Int):=by
 have:=ZgZ h;have e:=nN b;unfold Xe;rw[show XU (ZW.Zg v)=some ((ZW.Zg v).length:Int)from rfl,Bq,a.Zg,QR];congr 1
variable {br:List Int}
theorem Zp1 (h:Z7 b) (a:VOk b v) (r:br.length<=1048576):Zbn v br=some (tr (Zlt ((Zz b).length:Int) br)):=by
 have s:=VN h;unfold Zbn;rw[show ZdF (ZW.links v)=some ((ZW.links v).length:Int)from rfl,Bq,a.links,QR];exact ZpW br _ r
theorem ZrJ (h:Z7 b) (r:br.length<=1048576):Zhh b br=some (sel (Zlt ((Zz b).length:Int) br) 0 2):=by
 have s:=VN h;unfold Zhh;rw[Qb b h.sm,Bq,Uc (ZY h.ok),Zc2 h,Bq,Zod br _ r,Bq];by_cases q:Zlt ((Zz b).length:Int) br
 ·rw[Uc (ZY q),Vh q]
 ·rw[Ue (λz=>q ((YS _).1 z)),QF q]
theorem Zoy (h:Z7 b):VT b=some (YD b:Int):=by
 rw[Zo3 h.ok.1.few];congr 1
theorem ZFT (h:Z7 b) (r:br.length<=1048576) (H:Zlt ((Zz b).length:Int) br):Zbx b br=some (if(Jm b br).2=true then((Jm b br).1,0)else([],7)):=by
 have s:=VN h;unfold Zbx;rw[ZrJ h r,Bq,Vh H,Uc rfl,Zc2 h,Bq,Zoy h,Bq,Zio _ _ s r,Bq,Zth (ZLv h br),Bq];show(if(Jm b br).2=true then _ else _)=_;split<;>rfl
theorem Zxh (h:Z7 b) (a:VOk b v) (br:List Int):Zba (v,Jg b br,())=some (Jm b br) :=
 Zsz h a (ZLv h br) (Zpg h a)
theorem ZrI (h:Z7 b) (a:VOk b v) (r:br.length<=1048576) (H:Zlt ((Zz b).length:Int) br):ZaE v br=some (v,Jg b br,()):=by
 have s:=VN h;have:=ZxT v br (by rw[a.links];exact s) (by rw[a.links];exact H.1) r;rw[a.links]at this;exact this
theorem ZLw (r:ZiW (2*((Zg (K2 b)).length:Int)) t):Zhy (YD b) t:=by
 obtain⟨d,f,g,h⟩:=r;have E:=nN b;refine⟨by omega,by omega,by omega,λs q=>?_⟩;obtain⟨k,H⟩:=UC.1 q;have l:=(Ua.1 H).1;obtain⟨a,S,_,e,_,i,_⟩:=h k _ (Ub (show k<(Ga t).length by omega));rw[H]at e;injection e with e
 subst e;obtain⟨z,Z,c⟩:=i;exact⟨⟨by omega,by omega⟩,by omega,by omega⟩
theorem ZBi {n:Int} {l:List Zj} (h:Zei l (ZaU n l)) {i:Nat} {x:Zj} (a:l[i]?=some x):∀(m:Nat) (y:Zj),l[i+m+1]?=some y->Gi x<Gi y
 |0,y,H=>(h (i+1) y H).2.1 x (by omega) a
 |m+1,y,H=>by
  have q:=(Ua.1 H).1;have T:l[i+m+1]?=some (l[i+m+1]'(by omega)):=Ub _;have d:=ZBi h a m _ T;have f:=(h (i+m+1+1) y H).2.1 _ (by omega) T;omega
theorem ZDY {n:Int} (h:Zei l (ZaU n l)):Zwi l:=by
 intro i j x y H a m;rcases KK i j with q|q|q
 ·have:=ZBi h H (j-i-1) y (by rw[show i+(j-i-1)+1=j by omega];exact a)
  omega
 ·exact q
 ·have:=ZBi h a (i-j-1) x (by rw[show j+(i-j-1)+1=i by omega];exact H)
  omega
structure Zkt (b:Za) (c:ZB) (br:List Int) (l:List Zj):Prop where
 blk:Z7 b
 cor:JQ c
 ris:Zlt ((Zz b).length:Int) br
 src:Zei l (ZaU (2*((Zg (K2 b)).length:Int)) l)
 ord:(Jm b br).2=true
structure Pre (b:Za) (c:ZB) (br:List Int) (l:List Zj):Prop where
 blk:Z7 b
 cor:JQ c
 ris:Zlt ((Zz b).length:Int) br
 src:Zei l (ZaU (2*((Zg (K2 b)).length:Int)) l)
theorem Zkt.pre (h:Zkt b c br l):Pre b c br l:=⟨h.blk,h.cor,h.ris,h.src⟩
theorem ZBD (b:Za) (c:ZB) (br:List Int) (l:List Zj) (t:Zf) (e:sm Ya b) (g:sm XR c) (r:br.length<=1048576) (f:l.length<=1048576) :
  (∃code:Int,code≠0/\Q8 b c br l (some t)=some (none,[],code)/\(code=7/\Pre b c br l/\ZiW (2*((Zg (K2 b)).length:Int)) t/\(Jm b br).2≠true\/¬(Pre b c br l/\ZiW (2*((Zg (K2 b)).length:Int)) t)))\/
  (∃v,Zkt b c br l/\ZiW (2*((Zg (K2 b)).length:Int)) t/\VOk b v/\Q8 b c br l (some t)=some (some (v,Jg b br,()),(Jm b br).1,0)):=by
 unfold Q8;rw[ZfK b e,Bq];by_cases j:ZiV b;rotate_left
 ·rw[Ue (λq=>j ((YS _).1 q))]
  exact .inl ⟨1,by decide,rfl,.inr λq=>j q.1.blk.ok⟩
 have h:Z7 b:=⟨j,e⟩;rw[Uc (ZY j),Zkm c,Bq];by_cases z:JQ c;rotate_left
 ·rw[Ue (λq=>z ((YS _).1 q))]
  exact .inl ⟨1,by decide,rfl,.inr λq=>z q.1.cor⟩
 obtain⟨v,p,a⟩:=Ztv h;have n:=ZgZ h;have E:=nN b;rw[Uc (ZY z),p,Bq,Ue (by simp),Bq,Zko h v a.Zg t,Bq];by_cases d:ZiW (2*((Zg (K2 b)).length:Int)) t;rotate_left
 ·rw[Ue (λq=>d ((YS _).1 q))]
  exact .inl ⟨1,by decide,rfl,.inr λq=>d q.2⟩
 rw[Uc (ZY d),Zp1 h a r,Bq];by_cases H:Zlt ((Zz b).length:Int) br;rotate_left
 ·rw[Ue (λq=>H ((YS _).1 q))]
  exact .inl ⟨2,by decide,rfl,.inr λq=>H q.1.ris⟩
 rw[Uc (ZY H),ZfN h v a.Zg l f,Bq];by_cases s:Zei l (ZaU (2*((Zg (K2 b)).length:Int)) l);rotate_left
 ·rw[Ue (λq=>s ((YS _).1 q))]
  exact .inl ⟨2,by decide,rfl,.inr λq=>s q.1.src⟩
 rw[Uc (ZY s),ZrI h a r H,Bq,Zxh h a br,Bq];by_cases o:(Jm b br).2=true;rotate_left
 ·rw[Ue o]
  exact .inl ⟨7,by decide,rfl,.inl ⟨rfl,⟨h,z,H,s⟩,d,o⟩⟩
 rw[Uc o];exact .inr ⟨v,⟨h,z,H,s,o⟩,d,a,rfl⟩
def eqS (a b:ZC):Bool:=decide (Gh a=Gh b)&&decide (Gl a=Gl b)
theorem ZwD (a b:ZC):eqS a b=eqS b a:=by
 unfold eqS;congr 1<;>exact Kz.2 ⟨Eq.symm,Eq.symm⟩
def ZGb (x:Bool) (a s:ZC) (r:Bool×Zj):Bool:=if(x==r.1)=true then(if eqS a (GM r.2)=true then !(eqS s (GR r.2))else true)else true
def Zjm (t:Zf) (k:Nat) (r:Bool×Zj):Zf:=(List.set (Ga t) k r.1,List.set (Gx t) k (GM r.2),List.set (Gv t) k (GR r.2),())
theorem Ztp (r:Zhy n t) (H:k<n):∃x a s,atI (Ga t) (k:Int)=some x/\atI (Gx t) (k:Int)=some a/\atI (Gv t) (k:Int)=some s:=by
 have d:=r.lr;have f:=r.la;have g:=r.ls;exact⟨_,_,_,by rw[Zp];exact Ub (by omega),by rw[Zp];exact Ub (by omega),by rw[Zp];exact Ub (by omega)⟩
noncomputable def Zks (b:Za) (c:ZB) (live:List Bool) (l:List Zj) (t:Zf) (k:Nat):Bool :=
 ZGb ((atI (Ga t) (k:Int)).getD false) ((atI (Gx t) (k:Int)).getD V5) ((atI (Gv t) (k:Int)).getD V5) (ZyD (k:Int) (Za3 b c live l t (k:Int)))
def Fed (b:Za) (live:List Bool) (c:List Bool) (node:Int) (m:Nat):Prop:=∃(k:Nat) (x:Zt),k<m/\(Zz b)[k]?=some x/\live[k]?=some true/\Gm x=node/\atI c (Gj x)=some true
noncomputable def due (b:Za) (live:List Bool) (dirty:List Int) (c:List Bool) (node:Int):Bool:=tr (node∈dirty\/Fed b live c node (Zz b).length)
theorem Zwa {y:Int}:y∈toL b live node<->∃(k:Nat) (x:Zt),(Zz b)[k]?=some x/\y=(k:Int)/\live[k]?=some true/\Gm x=node:=by
 unfold toL;rw[XQ];constructor
 ·rintro⟨k,x,l,i⟩
  rw[Us]at i;unfold toF at i;split at i
  ·rename_i q
   split at i
   ·rename_i Q
    refine⟨k,x,l,Ux.1 i,?_,Q⟩;cases e:live[k]? with
    |none=>rw[e]at q;cases q
    |some L=>rw[e]at q;rw[show L=true from q]
   ·cases i
  ·cases i
 ·rintro⟨k,x,l,rfl,d,f⟩
  refine⟨k,x,l,?_⟩;rw[Us];unfold toF;rw[d,UX,Uc rfl,Uc f];exact Ux.2 rfl
theorem ZFS (h:Z7 b) (live:List Bool) (node:Int):(toL b live node).length<=6000:=by
 have:=Zv9 h live node (Zz b).length;rw[Uq]at this;exact this
theorem ZGF (h:Z7 b) {C:List Bool} (H:C.length=YD b) (a:x∈Zz b):∃c,atI C (Gj x)=some c:=by
 have:=(ZfC h a).1;have e:=nN b;obtain⟨c,q,_⟩:=Zit (l:=C) this.1;exact⟨c,q⟩
theorem Zgt {α σ:Type} {f:Nat->α->σ->σ} {I:σ->Prop}:∀(l:List α) (m:Nat) (s:σ),I s->(∀k x s,l[k]?=some x->I s->I (f (m+k) x s))->I (V7 f m l s)
 |[],_,_,h,_=>h
 |x::l,m,s,h,a=>by
  simp only[V7];have H:=a 0 x s rfl h;rw[U7]at H;refine Zgt l (m+1) _ H λk y s i q=>?_;rw[show m+1+k=m+(k+1) by omega];exact a (k+1) y s (by rw[Kg];exact i) q
def StB (st:NSt):Prop:=∀q,st=some q->ZBN q.2
theorem ZD0:ZBN V5:=by
 refine⟨⟨?_,?_⟩,?_,?_⟩<;>decide
theorem ZBd (h:JF s):ZBN s:=by
 obtain⟨z,Z,c⟩:=h;exact⟨⟨by omega,by omega⟩,by omega,by omega⟩
theorem ZDh (n:ZBN a) (q:ZBN s):ZBN (hul a s):=by
 obtain⟨⟨A,b⟩,j,k⟩:=n;obtain⟨⟨U,W⟩,X,Y⟩:=q;unfold hul;refine⟨⟨?_,?_⟩,?_,?_⟩
 ·show -1000000<=Min.min _ _;omega
 ·show Min.min _ _<=1000000;omega
 ·show -1000000<=Max.max _ _;omega
 ·show Max.max _ _<=1000000;omega
variable {st:NSt}
theorem ZDr (h:Z7 b) (j:VOk b v) (f:JQ c) (g:Zhy (YD b) t) (l:(Zz b)[k]?=some x) (e:StB st):StB (ZoG b c t x st):=by
 obtain⟨r,a,s,F,n,J,A⟩:=Zvp h g (Ud l);obtain⟨d,o,E,i,_,_,O,y⟩:=spans_eq h j f l A.1 A.2;have hsp:spn b c x s=(d,o):=by unfold spn;rw[i];rfl
 have u:ZoG b c t x st=if r=true then ZAg st (Zs2 a d) o else st:=by
  unfold ZoG;rw[F,n,J];simp only[UX,hsp]
 rw[u];split
 ·intro q H
  cases st with
  |none =>
   injection H with H
   rw[<-H];exact⟨O,y⟩
  |some p =>
   injection H with H
   rw[<-H];exact ZDh (e p rfl) ⟨O,y⟩
 ·exact e
theorem ZnX (a:Zkt b c br l) (d:VOk b v) (r:Zhy (YD b) t) (live:List Bool) (node:Int):StB (Za3 b c live l t node):=by
 unfold Za3;refine Zgt _ _ _ ?_ (λk x st H s=>?_)
 ·unfold Zhj
  refine Zgt _ _ _ (λq h=>by cases h) (λk x st H s=>?_);show StB (if Gi x=node then _ else st);split
  ·intro q h
   injection h with h
   rw[<-h];exact ZBd (a.src k x H).2.2.2
  ·exact s
 ·show StB (if(live[0+k]?).getD false=true then _ else st)
  split
  ·split
   ·exact ZDr a.blk d a.cor r H s
   ·exact s
  ·exact s
variable {r:Bool×Zj}
theorem Zqo (h:Zhy n t) (k:Nat) (F:ZBN (GR r.2)):Zhy n (Zjm t k r):=by
 refine⟨?_,?_,?_,λs H=>?_⟩
 ·show(List.set (Ga t) k r.1).length=n
  rw[UH];exact h.lr
 ·show(List.set (Gx t) k (GM r.2)).length=n
  rw[UH];exact h.la
 ·show(List.set (Gv t) k (GR r.2)).length=n
  rw[UH];exact h.ls
 ·rcases U5 (show s∈List.set (Gv t) k (GR r.2)from H)with q|q
  ·exact h.sl s q
  ·rw[q];exact F
theorem Zs7 (h:StB st) (node:Int):ZBN (GR (ZyD node st).2):=by
 cases st with
 |none=>exact ZD0
 |some q=>exact h q rfl
theorem ZDX {v:Nat} (h:nxt live L n out=some v):v<n/\(v:Int) ∉ out/\Zlc live L out (v:Int)=0:=by
 unfold nxt at h;rw[List.find?_range_eq_some]at h;obtain⟨g,a,_⟩:=h;rw[Ur,Ul,Ul]at g;exact⟨KG.1 a,g⟩
theorem ZAK (live:List Bool) (L:List Zt) (n:Nat):∀(m:Nat) (out:List Int),(∀u∈out,0<=u/\u<(n:Int))->(ZvN live L n m out).1.length<=out.length+m/\∀u∈(ZvN live L n m out).1,0<=u/\u<(n:Int)
 |0,out,h=>⟨by show out.length<=_;omega,h⟩
 |m+1,out,h=>by
  unfold ZvN;cases e:nxt live L n out with
  |none=>exact⟨by simp,λu a=>by cases a⟩
  |some v =>
   have H:=(ZDX e).1;obtain ⟨d,f⟩:=ZAK live L n m (out++[(v:Int)]) (λu a=>by
    rcases Uu.1 a with q|q
    ·exact h u q
    ·rw[Ux.1 q];omega)
   refine⟨?_,f⟩;rw[Ug]at d;simp only[Um,Uo]at d;show(ZvN live L n m (out++[(v:Int)])).1.length<=_;omega
theorem ZsY (b:Za) (br:List Int):(Jm b br).1.length<=YD b/\∀u∈(Jm b br).1,0<=u/\u<(YD b:Int):=by
 have:=ZAK (Jg b br) (Zz b) (YD b) (YD b) [] (λu a=>by cases a);rw[Uo,Us]at this;exact this
noncomputable def newV (b:Za) (c:ZB) (live:List Bool) (l:List Zj) (t:Zf) (node:Int):Bool×Zj:=ZyD node (Za3 b c live l t node)
noncomputable def Zsb (r:Bool×Zj):Bool:=r.1&&!tr (Za2 (GM r.2))
noncomputable def Zn7 (b:Za) (c:ZB) (live:List Bool) (l:List Zj) (dirty:List Int):List Int->List Int->Zf->List Bool->Bool×List Int×Zf
 |[],d,t,_=>(true,d,t)
 |node::r,d,t,h=>match due b live dirty h node with
  |true=>match Zsb (newV b c live l t node)with
   |true=>(false,[],t)
   |false=>Zn7 b c live l dirty r (d++[node]) (Zjm t node.toNat (newV b c live l t node)) (List.set h node.toNat (Zks b c live l t node.toNat))
  |false=>Zn7 b c live l dirty r d t h
theorem ZBG {x:Bool} (h:atI (Ga t) (k:Int)=some x) (n:atI (Gx t) (k:Int)=some a) (q:atI (Gv t) (k:Int)=some s):Zks b c live l t k=ZGb x a s (newV b c live l t (k:Int)):=by
 unfold Zks newV;rw[h,n,q];rfl
theorem Zs9 (b:Za) (c:ZB) (live:List Bool) (l:List Zj) (dirty:List Int) {n:Nat} {P:Zf->Prop} (p:∀(t:Zf) (node:Int),P t->P (Zjm t node.toNat (newV b c live l t node))) :
  ∀(r d:List Int) (t:Zf) (C:List Bool),P t->(Zn7 b c live l dirty r d t C).2.1.length<=d.length+r.length/\P (Zn7 b c live l dirty r d t C).2.2
 |[],d,t,C,h=>⟨by show d.length<=_;simp,h⟩
 |node::r,d,t,C,h=>by
  unfold Zn7;split
  ·split
   ·exact⟨by simp,h⟩
   ·have:=Zs9 b c live l dirty (n:=n) p r (d++[node]) _ (List.set C node.toNat (Zks b c live l t node.toNat)) (p t node h)
    rw[Ug]at this;simp only[Um,Uo]at this ⊢;exact⟨by omega,this.2⟩
  ·have:=Zs9 b c live l dirty (n:=n) p r d t C h
   simp only[Um];exact⟨by omega,this.2⟩
def noT:Zf:=([],[],[],())
theorem ZEA {a b:Int} (H:0<b) (h:0<=a) (i:a<=4000000000000000000):∃e r,Yx a b 0=some e/\Yx a b 1=some r/\0<=e/\e<=r:=by
 have t0:=Kx b h;have D:=Int.tdiv_nonneg h (show 0<=b by omega);have d:Int.tdiv a b<=a:=by
  rw[U1 h];exact Int.ediv_le_self b h
 have ex:∀m:Int,Yx a b m=some (if m=1/\0<Int.tmod a b then Int.tdiv a b+1 else Int.tdiv a b):=λm=>by
  unfold Yx;rw[Ra,QR (n:=Int.tdiv a b),QQ];by_cases f:(0:Int)<Int.tmod a b
  ·rw[Uc f]
   by_cases k:m=1
   ·rw[Uc k,Uc ⟨k,f⟩,QR]
   grind
  grind
 refine⟨_,_,ex 0,ex 1,?_,?_⟩;all_goals grind
theorem at_mem {l:List α} {i:Int} {x:α} (h:atI l i=some x):x∈l:=by
 unfold atI at h;grind
theorem Zni {t:ZE} (g:∀v∈Gz t,0<=v) (i k a c:Int):0<=tm t i k a c:=by
 unfold tm;split
 ·refine Int.mul_nonneg ?_ (by omega)
  unfold Zns;cases e:atI (Gz t) (i*((GA t).length:Int)+k)with
  |none=>exact U6 _
  |some x=>exact g x (at_mem e)
 grind
theorem ZCP {t:ZE} (h:Zah t) (g:∀v∈Gz t,0<=v) (s l:Int):∃R r,Vq t s l 0=some R/\Vq t s l 1=some r/\0<=R/\R<=r/\r<=1000000:=by
 obtain⟨j,a,b,H,E,P⟩:=Zlr h.1 s;obtain⟨k,c,d,f,y,Q⟩:=Zlr h.2.1 l;obtain⟨q,_,T,_,B⟩:=look_eq h s l (.inr rfl:(1:Int)=0\/(1:Int)=1);have U:=H.ab;have C:=H.a0;have V:=H.b0;have J:=H.j0;have o:=H.jl;have p:=H.jb;have W:=f.ab;have D:=f.a0;have X:=f.b0;have K:=f.j0;have u:=f.jl;have w:=f.jb;have p1:=Zhw (show 0<=a by omega) (show a<=100000 by omega) (show 0<=c by omega) (show c<=100000 by omega);have p2:=Zhw (show 0<=a by omega) (show a<=100000 by omega) (show 0<=d by omega) (show d<=100000 by omega);have p3:=Zhw (show 0<=b by omega) (show b<=100000 by omega) (show 0<=c by omega) (show c<=100000 by omega);have p4:=Zhw (show 0<=b by omega) (show b<=100000 by omega) (show 0<=d by omega) (show d<=100000 by omega);have pp:=Int.mul_pos C D;have q1:=ZqL h (i:=j) (k:=k) (a:=a) (c:=c) (λ_=>⟨J,o⟩) (λ_=>⟨K,u⟩);have q2:=ZqL h (i:=j) (k:=k+1) (a:=a) (c:=d) (λ_=>⟨J,o⟩) (λz=>⟨by omega,w z⟩);have q3:=ZqL h (i:=j+1) (k:=k) (a:=b) (c:=c) (λz=>⟨by omega,p z⟩) (λ_=>⟨K,u⟩);have q4:=ZqL h (i:=j+1) (k:=k+1) (a:=b) (c:=d) (λz=>⟨by omega,p z⟩) (λz=>⟨by omega,w z⟩);have n1:=Zni g j k a c;have Y:=Zni g j (k+1) a d;have Z:=Zni g (j+1) k b c;have n4:=Zni g (j+1) (k+1) b d;have S:(a+b)*(c+d)=a*c+a*d+(b*c+b*d):=by grind
 have L:∀m:Int,Vq t s l m=Yx (ZqO t j a b k c d) ((a+b)*(c+d)) m:=λm=>by
  unfold Vq;rw[E,y,Bq,Bq];have r:=Zpk h H f (v1:=0) (s:=0) (A:=a) (.inl ⟨rfl,rfl⟩);have G:=Zpk h H f (v1:=1) (s:=tm t j k a c+tm t j (k+1) a d) (A:=b) (.inr ⟨rfl,rfl⟩);refine(Xk (v':=(tm t j k a c+tm t j (k+1) a d,(1:Int),())) ?_).trans ((Xk (v':=(ZqO t j a b k c d,(2:Int),())) ?_).trans ?_)
  ·show YZ t m (j,a,b) (k,c,d) 0 0=_
   unfold YZ;rw[Uc (by decide)];refine r.trans ?_;rw[K1,Int.zero_add];rfl
  ·show YZ t m (j,a,b) (k,c,d) (tm t j k a c+tm t j (k+1) a d) 1=_
   unfold YZ;rw[Uc (by decide)];exact G
  ·have F:YZ t m (j,a,b) (k,c,d) (ZqO t j a b k c d) 2=(Yx (ZqO t j a b k c d) ((a+b)*(c+d)) m).bind λx=>some (.inr x):=by
    unfold YZ;rw[Ue (by decide)];show(Yx (ZqO t j a b k c d) (Wq (Wq (a+b)*Wq (c+d))) m).bind _=_;rw[QR (n:=a+b),QR (n:=c+d),QR (n:=(a+b)*(c+d))]
   cases e:Yx (ZqO t j a b k c d) ((a+b)*(c+d)) m with
   |none =>
    rw[e]at F;rw[ZqS];grind
   |some x =>
    rw[e]at F;exact Y1 F
 obtain⟨R,r,I,M,N,O⟩:=ZEA (a:=ZqO t j a b k c d) (b:=(a+b)*(c+d)) (by omega) (by unfold ZqO;omega) (by unfold ZqO;omega);grind
theorem ZDx {s:Int} (j:-1000000<=s) (k:s<=1000000) (o:0<=d) (p:d<=301000000) :
  ∃r c:Int,(∀m:Int,m=0\/m=1->((Zfv (Wq (Wq (Wq ((1000000:Int)*s)*s)+Wq (Wq ((4:Int)*d)*d))) m).bind λl=>(Yx l (1000:Int) m).bind λL=>some L)=some (if m=1 then c else r))/\0<=r/\r<=c:=by
 obtain⟨U,W,X,f,i⟩:=ZD3 j k o p;have E:Wq (Wq (Wq ((1000000:Int)*s)*s)+Wq (Wq ((4:Int)*d)*d))=((4*sqs s d:Nat):Int):=by
  rw[QR (n:=1000000*s),QR (n:=4*d),Int.mul_assoc,Int.mul_assoc,f,i];unfold sqs;generalize s.natAbs*s.natAbs=x at *;generalize d.natAbs*d.natAbs=y at *;rw[QR (n:=1000000*(x:Int)),QR (n:=4*(y:Int)),QR];omega
 generalize sqs s d=S at U E;obtain⟨R0,H,b,h⟩:=Zk6 (S:=4*S) (m:=0);obtain⟨R,a,q,e⟩:=Zk6 (S:=4*S) (m:=1);have g:R0=R:=Nat.le_antisymm ((ZDd a R0).2 H.1) ((ZDd H R).2 a.1);subst g;rw[E];refine⟨((R0/1000:Nat):Int),((upQ (if R0*R0<4*S then R0+1 else R0) 1000:Nat):Int),λm t=>?_,by omega,?_⟩
 ·rw[show(1000:Int)=((1000:Nat):Int)from rfl]
  rcases t with rfl|rfl
  ·rw[h,Bq,Ue (by decide),Znz (by omega) (by omega) (by omega) (.inl rfl),Bq,Ue (by decide),Ue (by decide)]
  ·rw[e,Bq,Uc rfl,Znz (by omega) (by split<;>omega) (by omega) (.inr rfl),Bq,Uc rfl,Uc rfl]
 ·unfold upQ
  grind
theorem Zxt (h:Z7 b) (p:VOk b v) (q:(Zz b)[k]?=some x) {s:Int} (S:-1000000<=s:=by omega) (B:s<=1000000:=by omega) :
  ∃e R,Qh b x s 0=some e/\Qh b x s 1=some R/\0<=e/\e<=R/\R<=1000000:=by
 obtain⟨y,n,N⟩:=Zp6 h (Ud q);rcases N.kind with f|F
 ·obtain⟨a,V,T,c1,c2,D,U,O,P,C⟩:=Znr h p N f
  obtain⟨e,R,Q,u,A⟩:=ZCP P C s (ldF b n);have ex:∀m r:Int,Vq T s (ldF b n) m=some r->Qh b x s m=some r:=λm r J=>by
   unfold Qh;rw[Uc f.1,c2,Bq];grind
  grind
 ·obtain⟨I,w,j,z,E,i,c⟩:=F
  obtain⟨ld,g⟩:=ZHX h E;obtain⟨G,l,t⟩:=g.sink (Ud c);obtain⟨e,R,Q,u,A⟩:=ZDx (s:=s) (d:=sdl w ld z) S B l t;have H:¬GP x=1:=by omega
  have ex:∀m:Int,m=0\/m=1->Qh b x s m=some (Min.min 1000000 (if m=1 then R else e)):=λm o=>by
   unfold Qh;rw[Ue H,Zp4 h N,Bq];unfold ZdQ;rw[Zp,E,Bq,i,Zp,c,Bq,Zmk g,Bq,G,Bq,Q m o,Bq]
  refine⟨_,_,ex 0 (.inl rfl),ex 1 (.inr rfl),?_,?_,?_⟩;all_goals grind
theorem ZBg (h:Z7 b) (a:VOk b v) (q:JQ c) (l:x∈Zz b) (f:JF s):JF (spn b c x s).2:=by
 obtain⟨k,H⟩:=UC.1 l;obtain⟨S,w,z⟩:=f;obtain⟨D,_,U,_⟩:=ZiB h a q H (Gh s) (.inl rfl:(0:Int)=0\/(0:Int)=1);obtain⟨d,_,W,_⟩:=ZiB h a q H (Gl s) (.inl rfl:(0:Int)=0\/(0:Int)=1);obtain⟨m,_,X,_⟩:=ZiB h a q H (Gh s) (.inr rfl:(1:Int)=0\/(1:Int)=1);obtain⟨n,_,Y,_⟩:=ZiB h a q H (Gl s) (.inr rfl:(1:Int)=0\/(1:Int)=1);obtain⟨O,p,F,A,G,i,t⟩:=Zxt h a H (s:=Gh s);obtain⟨y,r,g,B,j,o,u⟩:=Zxt h a H (s:=Gl s);have e:ZbI b c x s=some ((Min.min D d,Max.max m n,()),(Min.min O y,Max.max p r,())):=by
  unfold ZbI;grind
 unfold spn;rw[e];refine⟨?_,?_,?_⟩;all_goals grind
def StO (st:NSt):Prop:=∀q,st=some q->JF q.2
theorem Ztd:JF V5:=by
 refine⟨?_,?_,?_⟩<;>decide
theorem ZrV (n:JF a) (q:JF s):JF (hul a s):=by
 obtain⟨A,b,j⟩:=n;obtain⟨U,W,X⟩:=q;unfold hul;refine⟨?_,?_,?_⟩;all_goals grind
theorem ZGv {l:List ZC} (h:∀s∈l,JF s) (i:Int):JF ((atI l i).getD V5):=by
 cases e:atI l i with
 |none=>exact Ztd
 |some s=>exact h s (at_mem e)
theorem ZDs (h:Z7 b) (f:VOk b v) (d:JQ c) (e:∀s∈Gv t,JF s) (l:x∈Zz b) (a:StO st):StO (ZoG b c t x st):=by
 have o:=ZBg h f d l (ZGv e (Gj x));unfold ZoG;split
 ·intro q H
  cases st with
  |none =>
   have H:some (_,(spn b c x ((atI (Gv t) (Gj x)).getD V5)).2)=some q:=H;grind
  |some r =>
   have H:some (_,hul r.2 (spn b c x ((atI (Gv t) (Gj x)).getD V5)).2)=some q:=H;injection H with H
   rw[<-H];exact ZrV (a r rfl) o
 ·exact a
theorem Zyd (h:Z7 b) (e:VOk b v) (d:JQ c) (r:∀s∈Gv t,JF s) (f:∀x∈l,JF (GR x)) (live:List Bool) (node:Int):StO (Za3 b c live l t node):=by
 unfold Za3;refine Zgt (I:=StO) _ _ _ ?_ λk x st a hst=>?_
 ·unfold Zhj
  refine Zgt (I:=StO) _ _ _ (λq H=>by cases H) λk x st a hst=>?_;split
  ·intro q H
   grind
  ·exact hst
 ·split
  ·split
   ·exact ZDs h e d r (Ud a) hst
   ·exact hst
  ·exact hst
theorem Zqi:∀(A B:List Int),A.Nodup->(∀x∈A,x∈B)->A.length<=B.length
 |[],_,_,_=>Nat.zero_le _
 |a::A,B,h,q=>by
  obtain ⟨s,t,rfl⟩:=List.append_of_mem (q a UJ);have d:=List.nodup_cons.1 h;have:=Zqi A (s++t) d.2 (λx l=>by
   grind)
  grind
def Zuu (n:Nat):List Int:=(List.range n).map λ(k:Nat)=>(k:Int)
theorem ZrM {x:Int}:x∈Zuu n<->0<=x/\x<(n:Int):=by
 unfold Zuu;simp only[Ke,KG];constructor
 ·grind
 ·rintro⟨m,d⟩;exact⟨x.toNat,by omega,by omega⟩
theorem Zyh (n:Nat):(Zuu n).length=n:=by unfold Zuu;simp
variable {u:Int}
theorem ZAB {A:List Int} (h:A.Nodup) (H:A.length=n) (c:∀x∈A,0<=x/\x<(n:Int)) (m:0<=u) (d:u<(n:Int)):u∈A:=by
 refine US λq=>?_;have:=Zqi (u::A) (Zuu n) (List.nodup_cons.2 ⟨q,h⟩) (λx l=>by
  rcases UD.1 l with rfl|l
  ·exact ZrM.2 ⟨m,d⟩
  ·exact ZrM.2 (c x l))
 rw[Zyh]at this;grind
theorem Zz8 {l:List Int} (h:Inc l):l.Nodup:=by
 rw[List.nodup_iff_pairwise_ne,List.pairwise_iff_getElem];intro i j H b Z e;have:=Zl7 h Z (Ub H) (Ub b);omega
def Rdy (live:List Bool) (L:List Zt) (out:List Int) (v:Int):Prop:=∀(k:Nat) (x:Zt),L[k]?=some x->(live[k]?).getD false=true->Gm x=v->Gj x∈out
variable {v:Int}
theorem ZGV (h:Zlc live L out v=0):Rdy live L out v:=by
 intro k x l q r;have H:=(Ua.1 l).1;have:=ZEw live L out v L.length k x (UO _) H l;rw[Uq,h]at this;unfold cw at this;grind
theorem Rdy.mono {o:List Int} (h:Rdy live L out v) (s:∀x∈out,x∈o):Rdy live L o v:=λk x l q r=>s _ (h k x l q r)
def Zmt (live:List Bool) (L:List Zt):List Int->List Int->Prop
 |_,[]=>True
 |out,v::r=>(0<=v/\v ∉ out/\Rdy live L out v)/\Zmt live L (out++[v]) r
theorem Zxf {live:List Bool} {L:List Zt} {n:Nat}:∀(m:Nat) (out:List Int),(ZvN live L n m out).2=true->∃r,(ZvN live L n m out).1=out++r/\r.length=m/\Zmt live L out r
 |0,out,_=>⟨[],by rw[Un];rfl,rfl,trivial⟩
 |m+1,out,h=>by
  unfold ZvN at h ⊢;cases e:nxt live L n out with
  |none=>rw[e]at h;cases h
  |some v =>
   rw[e]at h;obtain⟨d,f,g⟩:=ZDX e;obtain⟨r,a,b,i⟩:=Zxf m (out++[(v:Int)]) h;refine⟨(v:Int)::r,?_,by grind,⟨by omega,f,ZGV g⟩,i⟩;grind
theorem Zmt.nodup {live:List Bool} {L:List Zt}:∀(r out:List Int),Zmt live L out r->out.Nodup->(out++r).Nodup
 |[],out,_,h=>by grind
 |v::r,out,h,x=>by
  have:=Zmt.nodup r (out++[v]) h.2 (by
   rw[U2];refine ⟨x,by simp,λa n b H e=>?_⟩;rw[Ux.1 H] at e;exact h.1.2.1 (e▸n))
  grind
structure ZGp (b:Za) (br:List Int) (R:List Int):Prop where
 ord:Zmt (Jg b br) (Zz b) [] R
 len:R.length=YD b
 nd:R.Nodup
 inn:∀u∈R,0<=u/\u<(YD b:Int)
 all:∀u:Int,0<=u->u<(YD b:Int)->u∈R
theorem Zxg (h:(Jm b br).2=true):ZGp b br (Jm b br).1:=by
 obtain⟨r,a,R,i⟩:=Zxf (YD b) [] h;have e:(Jm b br).1=r:=a;have l:=(ZsY b br).2;rw[e]at l;have f:r.Nodup:=Zmt.nodup r [] i KW;rw[e];exact⟨i,R,f,l,λu m d=>ZAB f R l m d⟩
abbrev Row:=Bool×ZC×ZC
def Zab (t:Zf) (k:Int):Row:=((atI (Ga t) k).getD false,(atI (Gx t) k).getD V5,(atI (Gv t) k).getD V5)
def ZkZ (r:Bool×Zj):Row:=(r.1,GM r.2,GR r.2)
variable {t':Zf}
theorem ZDq (h:Zab t (Gj x)=Zab t' (Gj x)) (st:NSt):ZoG b c t x st=ZoG b c t' x st:=by
 unfold Zab at h;have d:=UN Prod.fst h;have f:=UN (λz:Row=>z.2.1) h;have g:=UN (λz:Row=>z.2.2) h;dsimp only at d f g;unfold ZoG;rw[d,f,g]
theorem Zxa (h:∀(k:Nat) (x:Zt),(Zz b)[k]?=some x->(live[k]?).getD false=true->Gm x=node->Zab t (Gj x)=Zab t' (Gj x)):newV b c live l t node=newV b c live l t' node:=by
 unfold newV Za3;congr 1;refine Zl5 _ _ _ λk x st H=>?_;rw[Us];split
 ·rename_i q
  split
  ·rename_i r
   exact ZDq (h k x H q r) st
  ·rfl
 ·rfl
theorem ZmY (F:Rdy live (Zz b) out node) (h:∀u∈out,Zab t u=Zab t' u):newV b c live l t node=newV b c live l t' node :=
 Zxa λk x H q r=>h _ (F k x H q r)
theorem ZDl {b:ZC} (d:Gh a=Gh b) (f:Gl a=Gl b):a=b:=by
 grind
theorem ZnA {b:ZC}:eqS a b=true<->a=b:=by
 unfold eqS;grind
theorem ZB2 {x:Bool}:ZGb x a s r=false<->(x,a,s)=ZkZ r:=by
 unfold ZGb ZkZ;by_cases d:(x==r.1)=true
 ·rw[Uc d]
  have d:x=r.1:=eq_of_beq d;by_cases f:eqS a (GM r.2)=true
  ·rw[Uc f]
   have f:=ZnA.1 f;by_cases g:eqS s (GR r.2)=true
   ·rw[g]
    have g:=ZnA.1 g;grind
   ·rw[show eqS s (GR r.2)=false by grind]
    refine⟨λq=>(by cases q),λq=>absurd (ZnA.2 (UN (λz:Row=>z.2.2) q)) g⟩
  ·rw[Ue f]
   exact⟨λq=>(by cases q),λq=>absurd (ZnA.2 (UN (λz:Row=>z.2.1) q)) f⟩
 grind
theorem Zyz:Zks b c live l t k=false<->Zab t (k:Int)=ZkZ (newV b c live l t (k:Int)):=ZB2
theorem at_set {l:List α} {x:α}:atI (l.set k x) u=if u=(k:Int)then(atI l u).map (λ_=>x)else atI l u:=by
 unfold atI;grind
theorem ZhZ (h:u≠(k:Int):=by omega):Zab (Zjm t k r) u=Zab t u:=by
 unfold Zab Zjm;show((atI (List.set (Ga t) k r.1) u).getD false,(atI (List.set (Gx t) k _) u).getD V5,(atI (List.set (Gv t) k _) u).getD V5)=_;rw[at_set,at_set,at_set,Ue h,Ue h,Ue h]
theorem Zlp (b:Zhy n t) (H:k<n) (r:Bool×Zj):Zab (Zjm t k r) (k:Int)=ZkZ r:=by
 obtain⟨x,a,s,l,h,q⟩:=Ztp b H;unfold Zab Zjm ZkZ;show((atI (List.set (Ga t) k r.1) (k:Int)).getD false,(atI (List.set (Gx t) k _) (k:Int)).getD V5,(atI (List.set (Gv t) k _) (k:Int)).getD V5)=_;rw[at_set,at_set,at_set,Uc rfl,Uc rfl,Uc rfl,l,h,q];rfl
theorem ZE8 (r:Zhy n t) (d:Zhy n t') (h:∀k:Nat,k<n->Zab t (k:Int)=Zab t' (k:Int)):t=t':=by
 have one:∀{α:Type} (l l':List α) (z:α),l.length=n->l'.length=n->(∀k:Nat,k<n->(atI l (k:Int)).getD z=(atI l' (k:Int)).getD z)->l=l':=λl l' z E i f=>by
  apply Uy;intro k;by_cases H:k<n
  ·have:=f k H
   rw[Zp,Zp,Ub (by omega),Ub (by omega)]at this;grind
  grind
 obtain⟨a,b,c,⟨⟩⟩:=t;obtain⟨A,X,L,⟨⟩⟩:=t';have E:a=A:=one a A false r.lr d.lr λk H=>UN Prod.fst (h k H);have i:b=X:=one b X V5 r.la d.la λk H=>UN (λz:Row=>z.2.1) (h k H);have e:c=L:=one c L V5 r.ls d.ls λk H=>UN (λz:Row=>z.2.2) (h k H);rw[E,i,e]
def Right (b:Za) (c:ZB) (live:List Bool) (l:List Zj) (t:Zf):Prop:=∀u:Int,0<=u->u<(YD b:Int)->Zab t u=ZkZ (newV b c live l t u)
def ZoJ (r:Row):Prop:=r.1=true->Za2 r.2.1
theorem Zpa:Zsb r=false<->ZoJ (ZkZ r):=by
 unfold Zsb ZoJ ZkZ;dsimp only;cases r.1 with
 |true =>
  rw[KU];by_cases q:Za2 (GM r.2)
  ·rw[ZY q];grind
  ·rw[Yq q];grind
 |false=>grind
section
variable {b:Za} {c:ZB} {live:List Bool} {l:List Zj}
theorem ZrT {t t':Zf}:∀(r out:List Int),Zmt live (Zz b) out r->(∀u∈out,Zab t u=Zab t' u)->(∀u∈r,Zab t u=ZkZ (newV b c live l t u))->(∀u∈r,Zab t' u=ZkZ (newV b c live l t' u))->∀u∈r,Zab t u=Zab t' u
 |[],_,_,_,_,_,u,a=>by cases a
 |v::r,out,h,x,d,f,u,a=>by
  have H:Zab t v=Zab t' v:=by
   rw[d v UJ,f v UJ,ZmY h.1.2.2 x]
  rcases UD.1 a with rfl|a
  ·exact H
  ·exact ZrT r (out++[v]) h.2 (all_in x H) (λu a=>d u (UM _ a)) (λu a=>f u (UM _ a)) u a
where
 all_in {t t':Zf} {out:List Int} {v:Int} (ho:∀u∈out,Zab t u=Zab t' u) (hv:Zab t v=Zab t' v):∀u∈out++[v],Zab t u=Zab t' u:=λu hu=>by
  grind
variable {t:Zf}
theorem Zuz {br:List Int} {t':Zf} (o:ZGp b br (Jm b br).1) (r:Zhy (YD b) t) (H:Zhy (YD b) t') (h:Right b c (Jg b br) l t) (d:Right b c (Jg b br) l t'):t=t':=by
 have:=ZrT (t:=t) (t':=t') (Jm b br).1 [] o.ord (λu a=>by cases a) (λu a=>h u (o.inn u a).1 (o.inn u a).2) (λu a=>d u (o.inn u a).1 (o.inn u a).2);exact ZE8 r H λk e=>this _ (o.all _ (by omega) (by omega))
noncomputable def Zpi (b:Za) (c:ZB) (live:List Bool) (l:List Zj):List Int->Zf->Bool×Zf
 |[],t=>(true,t)
 |v::r,t=>match Zsb (newV b c live l t v)with
  |true=>(false,noT)
  |false=>Zpi b c live l r (Zjm t v.toNat (newV b c live l t v))
variable {n:Nat}
theorem ZmZ (hst:∀(t:Zf) (u:Int),Zhy n t->StB (Za3 b c live l t u)) (r:Zhy n t) (k:Nat) (v:Int):Zhy n (Zjm t k (newV b c live l t v)):=Zqo r _ (Zs7 (hst t v r) _)
theorem Zut (g:Zhy n t) {out:List Int} {v:Int} (m:0<=v) (j:v<(n:Int)) (i:v ∉ out) (F:Rdy live (Zz b) out v) (f:∀u∈out,Rdy live (Zz b) out u) (r:∀u∈out,Zab t u=ZkZ (newV b c live l t u)) :
  let t':=Zjm t v.toNat (newV b c live l t v)
  (∀u∈out++[v],Rdy live (Zz b) (out++[v]) u)/\(∀u∈out++[v],Zab t' u=ZkZ (newV b c live l t' u))/\(∀u:Int,u≠v->Zab t' u=Zab t u)/\Zab t' v=ZkZ (newV b c live l t v):=by
 have H:∀u:Int,u≠v->Zab (Zjm t v.toNat (newV b c live l t v)) u=Zab t u:=λu a=>ZhZ;have y:Zab (Zjm t v.toNat (newV b c live l t v)) v=ZkZ (newV b c live l t v):=by
  have:=Zlp g (k:=v.toNat) (by omega) (newV b c live l t v);grind
 have h:∀u∈out,Zab (Zjm t v.toNat (newV b c live l t v)) u=Zab t u:=λu a=>H u (λe=>i (e▸a));refine⟨λu a=>?_,λu a=>?_,H,y⟩
 ·rcases Uu.1 a with q|q
  ·exact(f u q).mono λx d=>Uu.2 (.inl d)
  ·rw[Ux.1 q];exact F.mono λx d=>Uu.2 (.inl d)
 ·rcases Uu.1 a with q|q
  ·rw[h u q,r u q,ZmY (f u q) h]
  ·rw[Ux.1 q,y,ZmY F h]
theorem ZA3 {n:Nat} (hst:∀(t:Zf) (u:Int),Zhy n t->StB (Za3 b c live l t u)):∀(r out:List Int) (t:Zf),Zmt live (Zz b) out r->(∀u∈r,u<(n:Int))->Zhy n t->(∀u∈out,Rdy live (Zz b) out u)->(∀u∈out,Zab t u=ZkZ (newV b c live l t u)/\ZoJ (Zab t u))->
  (Zpi b c live l r t).1=true->Zhy n (Zpi b c live l r t).2/\∀u∈out++r,Zab (Zpi b c live l r t).2 u=ZkZ (newV b c live l (Zpi b c live l r t).2 u)/\ZoJ (Zab (Zpi b c live l r t).2 u)
 |[],out,t,_,_,H,_,d,_=>by rw[Un];exact⟨H,d⟩
 |v::r,out,t,h,f,H,g,d,k=>by
  unfold Zpi at k ⊢;cases e:Zsb (newV b c live l t v)with
  |true=>grind
  |false =>
   rw[e] at k;obtain ⟨K,i,R,o⟩:=Zut H h.1.1 (f v UJ) h.1.2.1 h.1.2.2 g λu a=>(d u a).1;have:=ZA3 hst r (out++[v]) (Zjm t v.toNat (newV b c live l t v)) h.2 (λu a=>f u (UM _ a)) (ZmZ hst H _ _) K (λu a=>⟨i u a,by
    rcases Uu.1 a with q|q
    ·grind
    ·rw[Ux.1 q,o];exact Zpa.1 e⟩) k
   grind
theorem ZuB {n:Nat} {T:Zf} (hst:∀(t:Zf) (u:Int),Zhy n t->StB (Za3 b c live l t u)):∀(r out:List Int) (t:Zf),Zmt live (Zz b) out r->(∀u∈r,u<(n:Int))->Zhy n t->(∀u∈out,Zab t u=Zab T u)->(∀u∈r,Zab T u=ZkZ (newV b c live l T u)/\ZoJ (Zab T u))->(Zpi b c live l r t).1=true
 |[],_,_,_,_,_,_,_=>rfl
 |v::r,out,t,h,f,g,x,d=>by
  have H:=d v UJ;have e:newV b c live l t v=newV b c live l T v:=ZmY h.1.2.2 x;have j:=f v UJ;unfold Zpi;rw[show Zsb (newV b c live l t v)=false by rw[e,Zpa,<-H.1];exact H.2];refine ZuB hst r (out++[v]) _ h.2 (λu a=>f u (UM _ a)) (ZmZ hst g _ _) (λu a=>?_) (λu a=>d u (UM _ a));rcases Uu.1 a with q|q
  ·rw[ZhZ (by intro z;exact h.1.2.1 (by rw[show v=u by have:=h.1.1;omega];exact q))]
   exact x u q
  ·rw[Ux.1 q]
   have:=Zlp g (k:=v.toNat) (by have:=h.1.1;omega) (newV b c live l t v);rw[show(v.toNat:Int)=v by have:=h.1.1;omega]at this;rw[this,e,H.1]
end
variable {b:Za} {live:List Bool} {dirty:List Int} {c:List Bool} {v:Int}
theorem ZCf (h:due b live dirty c v=true):v∈dirty\/Fed b live c v (Zz b).length:=(YS _).1 h
theorem ZpB (h:due b live dirty c v=false):v ∉ dirty/\∀(k:Nat) (x:Zt),(Zz b)[k]?=some x->(live[k]?).getD false=true->Gm x=v->atI c (Gj x)≠some true:=by
 have f:¬(v∈dirty\/Fed b live c v (Zz b).length):=λq=>by
  have:=ZY q;unfold due at h;grind
 refine⟨λq=>f (.inl q),λk x l a r H=>f (.inr ⟨k,x,(Ua.1 l).1,l,?_,r,H⟩)⟩;grind
variable {k:Nat} {w:Bool}
theorem ZvF {u:Int} (h:u≠(k:Int):=by omega):atI (c.set k w) u=atI c u:=by rw[at_set,Ue h]
theorem mark_eq {n:Nat} (q:c.length=n) (H:k<n):atI (c.set k w) (k:Int)=some w:=by
 rw[at_set,Uc rfl,Zp,Ub (by omega)];rfl
section
variable {b:Za} {c:ZB} {live:List Bool} {l:List Zj} {dirty:List Int} {t0:Zf} {n:Nat}
structure Mid (b:Za) (live:List Bool) (t0:Zf) (n:Nat) (out:List Int) (t:Zf) (ch:List Bool):Prop where
 tb:Zhy n t
 cl:ch.length=n
 clo:∀u∈out,Rdy live (Zz b) out u
 rest:∀u:Int,u ∉ out->Zab t u=Zab t0 u/\atI ch u≠some true
 keep:∀u∈out,atI ch u≠some true->Zab t u=Zab t0 u
variable {out:List Int} {t:Zf} {v:Int}
theorem Mid.skip {c:List Bool} (h:Mid b live t0 n out t c) (d:v ∉ out) (F:Rdy live (Zz b) out v):Mid b live t0 n (out++[v]) t c where
 tb:=h.tb
 cl:=h.cl
 clo:=λu a=>by
  rcases Uu.1 a with q|q
  ·exact(h.clo u q).mono λx l=>Uu.2 (.inl l)
  ·rw[Ux.1 q];exact F.mono λx l=>Uu.2 (.inl l)
 rest:=λu a=>h.rest u λq=>a (Uu.2 (.inl q))
 keep:=λu a H=>by
  rcases Uu.1 a with q|q
  ·exact h.keep u q H
  ·rw[Ux.1 q];exact(h.rest v d).1
variable {C:List Bool}
theorem Mid.put (hst:∀(t:Zf) (u:Int),Zhy n t->StB (Za3 b c live l t u)) (h:Mid b live t0 n out t C) (m:0<=v) (i:v<(n:Int)) (f:v ∉ out) (F:Rdy live (Zz b) out v):Mid b live t0 n (out++[v]) (Zjm t v.toNat (newV b c live l t v)) (List.set C v.toNat (Zks b c live l t v.toNat)) where
 tb:=ZmZ hst h.tb _ _
 cl:=by rw[UH];exact h.cl
 clo:=(h.skip f F).clo
 rest:=λu a=>by
  have d:u≠v:=λe=>a (Uu.2 (.inr (by grind)));have:=h.rest u λq=>a (Uu.2 (.inl q));rw[ZhZ,ZvF];exact this
 keep:=λu a H=>by
  have j:(v.toNat:Int)=v:=by omega
  rcases Uu.1 a with q|q
  ·have d:u≠v:=λe=>f (e▸q)
   rw[ZvF]at H;rw[ZhZ];exact h.keep u q H
  ·have a:=Ux.1 q
   subst a;have R:=mark_eq (w:=Zks b c live l t u.toNat) h.cl (show u.toNat<n by omega);rw[j]at R;rw[R]at H;have g:Zks b c live l t u.toNat=false:=by
    grind
   have:=Zyz.1 g;rw[j]at this;have e:=Zlp h.tb (show u.toNat<n by omega) (newV b c live l t u);rw[j]at e;rw[e,<-this];exact(h.rest u f).1
theorem Mid.still (h:Mid b live t0 n out t C) (d:v ∉ out) (F:Rdy live (Zz b) out v) (r:v ∉ dirty->Zab t0 v=ZkZ (newV b c live l t0 v)) (N:due b live dirty C v=false):Zab t v=Zab t0 v/\Zab t v=ZkZ (newV b c live l t v):=by
 obtain⟨f,D⟩:=ZpB N;have e:newV b c live l t v=newV b c live l t0 v:=Zxa λk x a q H=>h.keep _ (F k x a q H) (D k x a q H);have:=(h.rest v d).1;grind
theorem ZvV (hst:∀(t:Zf) (u:Int),Zhy n t->StB (Za3 b c live l t u)) {C:Int->Prop} (j:∀u∈dirty,C u) (m:∀(k:Nat) (x:Zt),(Zz b)[k]?=some x->live[k]?=some true->C (Gj x)->C (Gm x)):∀(r d out:List Int) (t:Zf) (f:List Bool),Zmt live (Zz b) out r->(∀u∈r,u<(n:Int))->(∀u∈r,u ∉ dirty->Zab t0 u=ZkZ (newV b c live l t0 u)/\ZoJ (Zab t0 u))->Mid b live t0 n out t f->(∀u∈out,Zab t u=ZkZ (newV b c live l t u)/\ZoJ (Zab t u))->(∀u,atI f u=some true->C u)->
  (Zn7 b c live l dirty r d t f).1=true->Zhy n (Zn7 b c live l dirty r d t f).2.2/\(∀u∈out++r,Zab (Zn7 b c live l dirty r d t f).2.2 u=ZkZ (newV b c live l (Zn7 b c live l dirty r d t f).2.2 u)/\ZoJ (Zab (Zn7 b c live l dirty r d t f).2.2 u))/\∃D,(Zn7 b c live l dirty r d t f).2.1=d++D/\D.Sublist r/\(∀u∈r,u∈dirty->u∈D)/\∀u∈D,C u
 |[],d,out,t,f,_,_,_,F,s,_,_=>by
  rw[Un];exact⟨F.tb,s,[],by rw[Un];rfl,List.Sublist.refl _,λu a=>(by cases a),λu a=>(by cases a)⟩
 |v::r,d,out,t,f,h,y,H,F,s,o,g=>by
  have I:=h.1.1;have p:=y v UJ;unfold Zn7 at g ⊢;cases N:due b live dirty f v with
  |false =>
   rw[N] at g;obtain ⟨S,J⟩:=F.still h.1.2.1 h.1.2.2 (λq=>(H v UJ q).1) N;obtain ⟨z,K,D,R,A,E,G⟩:=ZvV hst j m r d (out++[v]) t f h.2 (λu a=>y u (UM _ a)) (λu a=>H u (UM _ a)) (F.skip h.1.2.1 h.1.2.2) (λu a=>by
    rcases Uu.1 a with q|q
    ·exact s u q
    ·rw[Ux.1 q]
     exact ⟨J,by rw[S];exact (H v UJ (ZpB N).1).2⟩) o g
   rw[Uj]at K;refine⟨z,K,D,R,A.cons v,λu a i=>?_,G⟩;rcases UD.1 a with rfl|a
   ·exact absurd i (ZpB N).1
   ·exact E u a i
  |true =>
   rw[N]at g;cases B:Zsb (newV b c live l t v)with
   |true=>grind
   |false =>
    simp only[B]at g ⊢;have w:C v:=by
     rcases ZCf N with q|⟨k,x,_,Q,M,O,L⟩
     all_goals grind
    obtain ⟨p1,P,T,W⟩:=Zut F.tb h.1.1 p h.1.2.1 h.1.2.2 F.clo λu a=>(s u a).1;obtain ⟨z,K,D,R,A,E,G⟩:=ZvV hst j m r (d++[v]) (out++[v]) (Zjm t v.toNat (newV b c live l t v)) (List.set f v.toNat (Zks b c live l t v.toNat)) h.2 (λu a=>y u (UM _ a)) (λu a=>H u (UM _ a)) (F.put hst h.1.1 p h.1.2.1 h.1.2.2) (λu a=>⟨P u a,by
     rcases Uu.1 a with q|q
     ·grind
     ·rw[Ux.1 q,W];exact Zpa.1 B⟩) (λu a=>by
     by_cases e:u=v
     ·rw[e];exact w
     ·rw[ZvF]at a
      exact o u a) g
    rw[Uj]at K;refine⟨z,K,v::D,by grind,A.cons_cons v,λu a i=>?_,λu a=>?_⟩;all_goals grind
theorem Zqs (hst:∀(t:Zf) (u:Int),Zhy n t->StB (Za3 b c live l t u)) {T:Zf}:∀(r d out:List Int) (t:Zf) (C:List Bool),Zmt live (Zz b) out r->(∀u∈r,u<(n:Int))->(∀u∈r,u ∉ dirty->Zab t0 u=ZkZ (newV b c live l t0 u))->Mid b live t0 n out t C->(∀u∈out,Zab t u=Zab T u)->(∀u∈r,Zab T u=ZkZ (newV b c live l T u)/\ZoJ (Zab T u))->
  (Zn7 b c live l dirty r d t C).1=true
 |[],_,_,_,_,_,_,_,_,_,_=>rfl
 |v::r,d,out,t,C,h,g,H,F,x,f=>by
  have i:=f v UJ;have e:newV b c live l t v=newV b c live l T v:=ZmY h.1.2.2 x;have j:=g v UJ;unfold Zn7;cases N:due b live dirty C v with
  |false =>
   obtain⟨s,S⟩:=F.still h.1.2.1 h.1.2.2 (λq=>H v UJ q) N;refine Zqs hst r d (out++[v]) t C h.2 (λu a=>g u (UM _ a)) (λu a=>H u (UM _ a)) (F.skip h.1.2.1 h.1.2.2) (λu a=>?_) (λu a=>f u (UM _ a));grind
  |true =>
   have m:Zsb (newV b c live l t v)=false:=by rw[e,Zpa,<-i.1];exact i.2
   simp only[m];refine Zqs hst r (d++[v]) (out++[v]) _ _ h.2 (λu a=>g u (UM _ a)) (λu a=>H u (UM _ a)) (F.put hst h.1.1 j h.1.2.1 h.1.2.2) (λu a=>?_) (λu a=>f u (UM _ a));have o:=h.1.1;rcases Uu.1 a with q|q
   ·rw[ZhZ (by intro z;exact h.1.2.1 (by grind))]
    exact x u q
   ·rw[Ux.1 q]
    have:=Zlp F.tb (k:=v.toNat) (by omega) (newV b c live l t v);grind
end
def ZyL (r:Row):Prop:=Za2 r.2.1/\JF r.2.2/\(r.1=false->r.2.1=V5/\r.2.2=V5)
def ZKW:Row:=(false,V5,V5)
theorem ZDk:Za2 V5:=by
 refine⟨⟨?_,?_⟩,⟨?_,?_⟩,?_⟩<;>decide
theorem ZA0:ZyL ZKW:=⟨ZDk,Ztd,λ_=>⟨rfl,rfl⟩⟩
variable {s:ZC}
theorem ZQM:Zero s<->s=V5:=⟨λh=>ZDl h.1 h.2,λh=>by rw[h];exact⟨rfl,rfl⟩⟩
variable {t:Zf} {k:Nat}
theorem ZA2 {x:Bool} {a:ZC} (l:(Ga t)[k]?=some x) (n:(Gx t)[k]?=some a) (q:(Gv t)[k]?=some s):Zab t (k:Int)=(x,a,s):=by
 unfold Zab;rw[Zp,Zp,Zp,l,n,q];rfl
variable {n:Nat}
theorem Zr0 (h:ZiW (n:Int) t) (c:k<n:=by omega):ZyL (Zab t (k:Int)):=by
 obtain⟨d,f,g,i⟩:=h;have l:(Ga t)[k]?=some ((Ga t)[k]'(by omega)):=Ub _;obtain⟨a,s,H,b,O,y,p⟩:=i k _ l;rw[ZA2 l H b];exact⟨O,y,λq=>⟨ZQM.1 (p q).1,ZQM.1 (p q).2⟩⟩
theorem ZrU (h:Zhy n t) (F:∀k:Nat,k<n->ZyL (Zab t (k:Int))):ZiW (n:Int) t:=by
 have d:=h.lr;have f:=h.la;have g:=h.ls;refine⟨by omega,by omega,by omega,λk x l=>?_⟩;have H:=(Ua.1 l).1;have a:(Gx t)[k]?=some ((Gx t)[k]'(by omega)):=Ub _;have s:(Gv t)[k]?=some ((Gv t)[k]'(by omega)):=Ub _;have:=F k (by omega);rw[ZA2 l a s]at this;exact⟨_,_,a,s,this.1,this.2.1,λq=>⟨ZQM.2 (this.2.2 q).1,ZQM.2 (this.2.2 q).2⟩⟩
theorem Zya {b:Za} {c:ZB} {live:List Bool} {l:List Zj} {u:Int} (h:StO (Za3 b c live l t u)) (a:ZoJ (ZkZ (newV b c live l t u))):ZyL (ZkZ (newV b c live l t u)):=by
 unfold newV at a ⊢;cases e:Za3 b c live l t u with
 |none=>exact ZA0
 |some q =>
  rw[e]at a;exact⟨a rfl,h q e,λz=>by cases z⟩
theorem Zcx {α β:Type} {g:Nat->α->β}:∀(l:List α) (m j:Nat),(cat (λj n=>[g j n]) m l)[j]?=(l[j]?).map (g (m+j))
 |[],m,j=>by simp[cat]
 |x::r,m,0=>by simp[cat]
 |x::r,m,j+1=>by
  simp only[cat,List.singleton_append,Kg,Zcx r];grind
theorem ZbL {α β:Type} {g:Nat->α->β}:∀(l:List α) (m:Nat),(cat (λj n=>[g j n]) m l).length=l.length
 |[],m=>rfl
 |x::r,m=>by simp only[cat,List.singleton_append,Um,ZbL r]
theorem Zl1 {α β:Type} {g:Nat->α->β} (y:α):∀(l:List α) (m j:Nat),cat (λj n=>[g j n]) m (l.set j y)=(cat (λj n=>[g j n]) m l).set j (g (m+j) y)
 |[],m,j=>by simp[cat]
 |x::r,m,0=>by simp[cat]
 |x::r,m,j+1=>by
  simp only[cat,List.singleton_append,List.set_cons_succ,Zl1 y r];grind
variable {i:Nat}
theorem Zh4 {α β:Type} (f:Nat->α->List β) {l:List α} {x:α} (H:l[i]?=some x):cat f 0 l=cat f 0 (l.take i)++(f i x++cat f (i+1) (l.drop (i+1))):=by
 have h:=(Ua.1 H).1;have e:l=l.take i++(x::l.drop (i+1)):=by
  have N:l.drop i=x::l.drop (i+1):=by
   rw[Kw h];grind
  rw[<-N,KH]
 have E:=UN (cat f 0) e;rw[Zc4]at E;simp only[cat,Us,Uk]at E;grind
variable {j:Nat}
theorem ZEs {α β:Type} (f:Nat->α->List β) {l:List α} {x y:α} {z:β} (h:l[i]?=some x) (b:j<(f i x).length) (a:f i y=(f i x).set j z):cat f 0 (l.set i y)=(cat f 0 l).set ((cat f 0 (l.take i)).length+j) z:=by
 have H:=(Ua.1 h).1;rw[Zh4 f h,Zh4 f (l:=l.set i y) (x:=y) (UG H),List.take_set,List.set_eq_of_length_le (by grind),List.drop_set_of_lt (by omega),a,List.set_append,QQ,List.set_append,QP,Nat.add_sub_cancel_left]
abbrev Zgn (d:Zb) (i:Nat):Nat:=(cat YW 0 ((K3 d).take i)).length
abbrev Z5 (d:Zb):Nat:=(cat YW 0 (K3 d)).length
def ZcI (i:Nat) (x:Zd) (j:Nat) (n:Int):Pl:=((i:Int),(j:Int),n,decide ((j:Int)=Wq (((Gc x).length:Int)-1)),())
theorem ZmV (i:Nat) (x:Zd):YW i x=cat (λj n=>[ZcI i x j n]) 0 (Gc x):=rfl
variable {n:Int}
theorem Zda {x:Zd} (h:(Gc x)[j]?=some n):(YW i x)[j]?=some (ZcI i x j n):=by
 rw[ZmV,Zcx,h,Us];rfl
theorem Q9 (i:Nat) (x:Zd):(YW i x).length=(Gc x).length:=by rw[ZmV,ZbL]
variable (l:List Z6) (m:Nat)
theorem Zm5:cat Zcd m l=cat (λj p=>[((-1:Int),(j:Int),GK p,decide (GF p=1),())]) m l:=rfl
theorem Zus:(cat Zcd m l).length=l.length:=by rw[Zm5,ZbL]
variable {d:Zb}
theorem Zbs {x:Zd} (l:(K3 d)[i]?=some x) (f:(Gc x)[j]?=some n):(Zg d)[Zgn d i+j]?=some (ZcI i x j n):=by
 have b:=(Ua.1 f).1;unfold Zg;rw[Zh4 YW l,Uj,UE (by unfold Zgn;omega),show Zgn d i+j-(cat YW 0 ((K3 d).take i)).length=j by unfold Zgn;omega,Uj,Ut (by rw[Q9];exact b)];exact Zda f
theorem Zs3 {q:Z6} (b:(Ge d)[j]?=some q):(Zg d)[Z5 d+j]?=some ((-1:Int),(j:Int),GK q,decide (GF q=1),()):=by
 unfold Zg;rw[UE (by unfold Z5;omega),show Z5 d+j-(cat YW 0 (K3 d)).length=j by unfold Z5;omega,Zm5,Zcx,b,Us];rfl
variable {p:Pl}
theorem QN (g:(Zg d)[k]?=some p) :
  (∃(i j:Nat) (x:Zd) (n:Int),(K3 d)[i]?=some x/\(Gc x)[j]?=some n/\k=Zgn d i+j/\p=ZcI i x j n)\/
  (∃(j:Nat) (q:Z6),(Ge d)[j]?=some q/\k=Z5 d+j/\p=((-1:Int),(j:Int),GK q,decide (GF q=1),())):=by
 by_cases m:k<Z5 d
 ·left
  have H:(cat YW 0 (K3 d))[k]?=some p:=by
   unfold Zg at g;grind
  have find:∀(n:Nat),n<=(K3 d).length->k<Zgn d n->∃i,i<n/\Zgn d i<=k/\k<Zgn d (i+1):=by
   intro n;induction n with
   |zero=>intro _ h;simp[Zgn,cat]at h
   |succ n I =>
    grind
  obtain⟨i,b,o,a⟩:=find (K3 d).length (UO _) (by grind);have l:(K3 d)[i]?=some (K3 d)[i]:=Ub b;generalize (K3 d)[i]=x at l;have s:Zgn d (i+1)=Zgn d i+(Gc x).length:=by
   unfold Zgn;rw[Zdk l,Ug,Q9]
  have c:k-Zgn d i<(Gc x).length:=by omega
  have f:(Gc x)[k-Zgn d i]?=some (Gc x)[k-Zgn d i]:=Ub c;generalize (Gc x)[k-Zgn d i]=n at f;refine⟨i,k-Zgn d i,x,n,l,f,by omega,?_⟩;have e:=Zbs l f;grind
 ·right
  have H:(cat Zcd 0 (Ge d))[k-Z5 d]?=some p:=by
   unfold Zg at g;grind
  rw[Zm5,Zcx,Us]at H;grind
theorem key_inj {K:Nat} {Z:Pl} (g:(Zg d)[k]?=some p) (C:(Zg d)[K]?=some Z) (h:p.1=Z.1) (f:p.2.1=Z.2.1):k=K:=by
 rcases QN g with⟨i,j,x,n,_,_,e,rfl⟩|⟨j,q,_,e,rfl⟩<;>rcases QN C with⟨S,J,X,N,_,_,E,rfl⟩|⟨J,Q,_,E,rfl⟩
 ·simp only[ZcI]at h f
  grind
 ·simp only[ZcI]at h;omega
 ·simp only[ZcI]at h;omega
 grind
def ZcZ (x:Zd) (j:Nat) (n:Int):Zd:=(Gq x,Gr x,List.set (Gc x) j n,())
def setPort (q:Z6) (n:Int):Z6:=(GT q,GF q,n,())
def Xl (d:Zb) (a b:Int) (n:Int):Zb :=
 if a<0 then (K3 d,K5 d,match (Ge d)[b.toNat]? with
  |some q=>(Ge d).set b.toNat (setPort q n)
  | none=>Ge d,())
 else (match (K3 d)[a.toNat]? with
  |some x=>(K3 d).set a.toNat (ZcZ x b.toNat n)
  | none=>K3 d,K5 d,Ge d,())
theorem ZA7 (i:Nat) (x:Zd) (j:Nat) (n:Int):YW i (ZcZ x j n)=(YW i x).set j (ZcI i x j n):=by
 rw[ZmV,ZmV];show cat (λ(J:Nat) (m:Int)=>[ZcI i (ZcZ x j n) J m]) 0 (List.set (Gc x) j n)=_;have:(λ(J:Nat) (m:Int)=>[ZcI i (ZcZ x j n) J m])=λJ m=>[ZcI i x J m]:=by
  funext J m;have q:(Gc (ZcZ x j n)).length=(Gc x).length:=UH;simp only[ZcI,q]
 rw[this,Zl1,Us]
theorem XC (g:(Zg d)[k]?=some p) (n:Int):Zg (Xl d p.1 p.2.1 n)=(Zg d).set k (p.1,p.2.1,n,p.2.2.2.1,()):=by
 rcases QN g with⟨i,j,x,m,l,f,e,rfl⟩|⟨j,q,h,e,rfl⟩
 ·have b:=(Ua.1 f).1
  have E:Xl d (ZcI i x j m).1 (ZcI i x j m).2.1 n=((K3 d).set i (ZcZ x j n),K5 d,Ge d,()):=by
   unfold Xl;rw[Ue (by simp only[ZcI];omega)];simp only[ZcI,Up,l]
  rw[E];unfold Zg;show cat YW 0 ((K3 d).set i (ZcZ x j n))++cat Zcd 0 (Ge d)=_;have t:k<(cat YW 0 (K3 d)).length:=by
   rw[Zh4 YW l,Ug,Ug,Q9];grind
  rw[ZEs YW l (j:=j) (z:=ZcI i x j n) (by rw[Q9];exact b) (ZA7 i x j n),List.set_append,Uc t,e];rfl
 ·have E:Xl d (-1) (j:Int) n=(K3 d,K5 d,(Ge d).set j (setPort q n),()):=by
   unfold Xl;grind
  show Zg (Xl d (-1) (j:Int) n)=_;rw[E];unfold Zg;show cat YW 0 (K3 d)++cat Zcd 0 ((Ge d).set j (setPort q n))=_;rw[List.set_append,Ue (by grind),Zm5,Zl1,Us,e,show Z5 d+j-(cat YW 0 (K3 d)).length=j by unfold Z5;omega,Zm5];rfl
def nth (pl:List Pl) (net:Int) (k:Nat):Nat:=(cat (Qu net) 0 (pl.take k)).length
variable {net:Int}
theorem Zjr (h:¬(p.2.2.1=net/\p.2.2.2.1=false)):Qu net k p=[]:=by
 unfold Qu;grind
theorem Zjs (d:p.2.2.1=net) (f:p.2.2.2.1=false):Qu net k p=[(k:Int)]:=by
 unfold Qu;grind
variable {pl:List Pl}
theorem Zij (g:pl[k]?=some p) (d:p.2.2.1=net) (f:p.2.2.2.1=false):(cat (Qu net) 0 pl)[nth pl net k]?=some (k:Int):=by
 rw[Zh4 (Qu net) g,Zjs d f];unfold nth;grind
theorem Zne {v:Int} (a:v∈cat (Qu net) 0 pl):∃(k:Nat) (p:Pl),v=(k:Int)/\pl[k]?=some p/\p.2.2.1=net/\p.2.2.2.1=false:=by
 obtain⟨k,p,g,a⟩:=XQ.1 a;by_cases h:p.2.2.1=net/\p.2.2.2.1=false
 ·rw[Zjs h.1 h.2]at a
  grind
 ·rw[Zjr h]at a
  cases a
theorem ZAD (g:pl[k]?=some p) (d:p.2.2.1=net) (f:p.2.2.2.1=false):nth pl net k<(cat (Qu net) 0 pl).length:=(Ua.1 (Zij g d f)).1
def YF (b:Za) (k:Nat):Int:=match (Zg (K2 b))[k]? with
 |some p=>if p.2.2.2.1=true then 0 else match (K4 b)[p.2.2.1.toNat]? with
  |some w=>((Gu w)[nth (Zg (K2 b)) p.2.2.1 k]?).getD 0
  |none=>0
 |none=>0
def Zce (w:Zq) (l:List Int):Zq:=(K8 w,GB w,GE w,l,())
def JM (pl:List Pl) (ws:List Zq) (nd:Nat->Int):List Zq:=cat (λv w=>[Zce w ((cat (Qu (v:Int)) 0 pl).map (λk=>nd k.toNat))]) 0 ws
theorem Qc (pl:List Pl) (ws:List Zq) (nd:Nat->Int) (v:Nat):(JM pl ws nd)[v]?=(ws[v]?).map (λw=>Zce w ((cat (Qu (v:Int)) 0 pl).map (λk=>nd k.toNat))):=by
 unfold JM;rw[Zcx,Us]
theorem ZeE (pl:List Pl) (ws:List Zq) (nd:Nat->Int):(JM pl ws nd).length=ws.length:=ZbL _ _
variable {ws:List Zq} {nd:Nat->Int}
theorem Zmo {nd':Nat->Int} (h:∀(k:Nat) (p:Pl),pl[k]?=some p->p.2.2.2.1=false->nd k=nd' k):JM pl ws nd=JM pl ws nd':=by
 apply Uy;intro v;rw[Qc,Qc];congr 1;funext w;congr 1;apply Kj;intro x l;obtain⟨k,p,e,g,_,f⟩:=Zne l;grind
def Zis (pl:List Pl) (ws:List Zq) (nd:Nat->Int) (k:Nat):List Zq:=JM (pl.take k) ws nd
theorem ZuY {w:Zq} (g:pl[k]?=some p) (f:p.2.2.2.1=false) (m:0<=p.2.2.1) (c:ws[p.2.2.1.toNat]?=some w) :
  (Zis pl ws nd k)[p.2.2.1.toNat]?=some (Zce w ((cat (Qu p.2.2.1) 0 (pl.take k)).map (λk=>nd k.toNat)))/\
  (Zis pl ws nd k).set p.2.2.1.toNat (Zce w ((cat (Qu p.2.2.1) 0 (pl.take k)).map (λk=>nd k.toNat)++[nd k]))=Zis pl ws nd (k+1):=by
 have H:=(Ua.1 g).1;have t:=(Ua.1 c).1;unfold Zis;constructor
 ·rw[Qc,c,show(p.2.2.1.toNat:Int)=p.2.2.1 by omega]
  rfl
 ·apply Uy
  intro v;rw[UR,Qc,Qc];have h:∀net:Int,cat (Qu net) 0 (pl.take (k+1))=cat (Qu net) 0 (pl.take k)++Qu net k p:=λnet=>Zdk g;split
  ·rename_i e
   subst e;rw[ZeE,Uc t,c,h,show(p.2.2.1.toNat:Int)=p.2.2.1 by omega,Zjs rfl f,Kd]
   simp_all
  ·rename_i e
   congr 1;funext w';congr 1;rw[h,Zjr (λq=>e (by have:=q.1;omega)),Un]
theorem ZuX (g:pl[k]?=some p) (f:p.2.2.2.1=true):Zis pl ws nd (k+1)=Zis pl ws nd k:=by
 unfold Zis;apply Uy;intro v;rw[Qc,Qc];congr 1;funext w';congr 1;rw[Zdk g,Zjr (λq=>by grind),Un]
theorem ZDZ:∀(l l':List Int),l.Pairwise (·<·)->l'.Pairwise (·<·)->(∀x,x∈l<->x∈l')->l=l'
 |[],[],_,_,_=>rfl
 |[],y::l',_,_,h=>by have:=(h y).2 UJ;cases this
 |x::l,[],_,_,h=>by have:=(h x).1 UJ;cases this
 |x::l,y::l',d,f,h=>by
  rw[List.pairwise_cons]at d f;have e:x=y:=by
   rcases UD.1 ((h x).1 UJ)with q|q
   ·exact q
   ·rcases UD.1 ((h y).2 UJ)with z|z
    all_goals grind
  subst e;rw[ZDZ l l' d.2 f.2 λz=>⟨λT=>?_,λT=>?_⟩];all_goals grind
theorem Zy8 {α β γ:Type} {f:Nat->β->List γ} (g:α->β):∀(l:List α) (m:Nat),cat f m (l.map g)=cat (λj s=>f j (g s)) m l
 |[],_=>rfl
 |x::l,m=>by
  show f m (g x)++cat f (m+1) (l.map g)=f m (g x)++cat (λj s=>f j (g s)) (m+1) l;rw[Zy8 g l (m+1)]
theorem ZAq {α β γ:Type} {f:Nat->α->List β} (h:β->γ):∀(l:List α) (m:Nat),(cat f m l).map h=cat (λj s=>(f j s).map h) m l
 |[],_=>rfl
 |x::l,m=>by
  show(f m x++cat f (m+1) l).map h=(f m x).map h++cat (λj s=>(f j s).map h) (m+1) l;rw[Kd,ZAq h l (m+1)]
theorem ZtQ {α β:Type} {f g:Nat->α->List β}:∀(l:List α) (m:Nat),(∀k x,l[k]?=some x->f (m+k) x=g (m+k) x)->cat f m l=cat g m l
 |[],_,_=>rfl
 |x::l,m,h=>by
  show f m x++cat f (m+1) l=g m x++cat g (m+1) l;have H:=h 0 x rfl;rw[U7]at H;rw[H];refine UN (λz=>g m x++z) (ZtQ l (m+1) λk y i=>?_);rw[show m+1+k=m+(k+1) by omega]
  simp_all
theorem ZbZ {α β:Type} {f:Nat->α->List β} {P:β->Bool}:∀(l:List α) (m:Nat),(∀k y,l[k]?=some y->(f (m+k) y).filter P=[])->(cat f m l).filter P=[]
 |[],_,_=>rfl
 |x::l,m,h=>by
  show (f m x++cat f (m+1) l).filter P=[];have H:=h 0 x rfl;rw[U7] at H;rw[Ki,H,ZbZ l (m+1) λk y i=>by
   rw[show m+1+k=m+(k+1) by omega];exact h (k+1) y (by grind)]
  rfl
theorem ZiX {α β:Type} {f:Nat->α->List β} {P:β->Bool}:∀(l:List α) (m i:Nat) (x:α),l[i]?=some x->(∀k y,l[k]?=some y->k≠i->(f (m+k) y).filter P=[])->(cat f m l).filter P=(f (m+i) x).filter P
 |[],_,i,x,H,_=>by simp at H
 |y::l,m,0,x,H,h=>by
  have e:y=x:=by simpa using H
  subst e;show (f m y++cat f (m+1) l).filter P=_;rw[Ki,ZbZ l (m+1) λk z T=>by
   rw[show m+1+k=m+(k+1) by omega];exact h (k+1) z (by grind) (by omega),Un]
  rfl
 |y::l,m,i+1,x,H,h=>by
  show (f m y++cat f (m+1) l).filter P=_;have a:=h 0 y rfl (by omega);rw[U7] at a;rw[Ki,a,Uw,ZiX l (m+1) i x (by grind) λk z T b=>by
   rw[show m+1+k=m+(k+1) by omega];exact h (k+1) z (by grind) (by omega)]
  grind
theorem Ztc (n:Int):∀(l:List Pl) (m:Nat),(cat (Qu n) m l).Pairwise (·<·)/\∀x∈cat (Qu n) m l,(m:Int)<=x
 |[],m=>⟨List.Pairwise.nil,λx h=>by cases h⟩
 |p::l,m=>by
  obtain⟨d,f⟩:=Ztc n l (m+1);show(Qu n m p++cat (Qu n) (m+1) l).Pairwise (·<·)/\∀x∈Qu n m p++cat (Qu n) (m+1) l,(m:Int)<=x;by_cases q:p.2.2.1=n/\p.2.2.2.1=false
  ·rw[Zjs q.1 q.2]
   grind
  ·rw[Zjr q]
   grind
theorem Zal {y:Int}:y∈Xx d n<->∃(k:Nat) (p:Pl),y=(k:Int)/\(Zg d)[k]?=some p/\p.2.2.1=n/\p.2.2.2.1=false:=by
 constructor
 ·exact λh=>Zne h
 ·rintro⟨k,p,rfl,g,H,f⟩
  exact Ud (Zij g H f)
structure ZBQ (b r:Za) (af:Nat->Nat) (U:Int->Prop):Prop where
 to:∀(k:Nat) (p:Pl),(Zg (K2 b))[k]?=some p->U p.2.2.1->(Zg (K2 r))[af k]?=some p
 fro:∀(k:Nat) (p:Pl),(Zg (K2 r))[k]?=some p->U p.2.2.1->∃j,af j=k/\(Zg (K2 b))[j]?=some p
 mono:∀(j k:Nat) (p q:Pl),(Zg (K2 b))[j]?=some p->(Zg (K2 b))[k]?=some q->U p.2.2.1->U q.2.2.1->j<k->af j<af k
structure Loc (b r:Za) (af:Nat->Nat) (U:Int->Prop) (A:Nat->Prop):Prop extends ZBQ b r af U where
 lib:K6 r=K6 b
 wire:∀v:Nat,U (v:Int)->(K4 r)[v]?=(K4 b)[v]?
 inst:∀(k:Nat) (p:Pl),(Zg (K2 b))[k]?=some p->U p.2.2.1->0<=p.1->∃x x':Zd,(K3 (K2 b))[p.1.toNat]?=some x/\(K3 (K2 r))[p.1.toNat]?=some x'/\Gr x'=Gr x/\fst (K2 r) p.1.toNat=fst (K2 b) p.1.toNat/\∀j,j<(Gc x).length->A (fst (K2 b) p.1.toNat+j)/\af (fst (K2 b) p.1.toNat+j)=fst (K2 b) p.1.toNat+j
 alv:∀(k:Nat) (p:Pl),(Zg (K2 b))[k]?=some p->U p.2.2.1->A k
section
variable {b r:Za} {af:Nat->Nat} {U:Int->Prop}
theorem ZEU (h:ZBQ b r af U) {j k:Nat} {p q:Pl} (g:(Zg (K2 b))[j]?=some p) (H:(Zg (K2 b))[k]?=some q) (up:U p.2.2.1) (u:U q.2.2.1) (e:af j=af k:=by omega):j=k:=by
 rcases KK j k with l|l|l
 ·have:=h.mono j k p q g H up u l;omega
 ·exact l
 ·have:=h.mono k j q p H g u up l;omega
theorem Zp8 (h:ZBQ b r af U) {n:Int} (f:U n):Xx (K2 r) n=(Xx (K2 b) n).map λy=>(af y.toNat:Int):=by
 refine ZDZ _ _ (Ztc n _ 0).1 ?_ λx=>?_
 ·rw[List.pairwise_map]
  refine(Ztc n (Zg (K2 b)) 0).1.imp_of_mem λ{x y} l H d=>?_;obtain⟨j,p,rfl,g,E,_⟩:=Zal.1 l;obtain⟨k,q,rfl,c,i,_⟩:=Zal.1 H;have:=h.mono j k p q g c (E▸f) (i▸f) (by omega);grind
 ·rw[Zal,Ke]
  constructor
  ·rintro⟨k,p,rfl,g,E,i⟩
   obtain⟨j,rfl,a⟩:=h.fro k p g (E▸f);exact⟨(j:Int),Zal.2 ⟨j,p,rfl,a,E,i⟩,by grind⟩
  ·rintro⟨y,H,rfl⟩
   obtain⟨k,p,rfl,g,E,i⟩:=Zal.1 H;rw[Up];exact⟨af k,p,rfl,h.to k p g (E▸f),E,i⟩
variable {v:Nat}
theorem ZAo (h:ZBQ b r af U) (a:Z7 b) (F:Z7 r) (c:v<(K5 (K2 b)).length) (i:v<(K5 (K2 r)).length) (n:U (v:Int)):∃(q:Nat) (y:Pl),Ziu (K2 b) (v:Int)=(q:Int)/\Ziu (K2 r) (v:Int)=(af q:Int)/\(Zg (K2 b))[q]?=some y/\y.2.2.1=(v:Int)/\y.2.2.2.1=true:=by
 obtain⟨q,y,d,f,j,_⟩:=Zos a.ok.1 (Vi a.sm).2.1 c;obtain⟨Q,Y,G,e,t,g⟩:=Zos F.ok.1 (Vi F.sm).2.1 i;have H:=f;unfold Zu0 at H;rw[Ur,Ul]at H;have:=g (af q) y (h.to q y d (H.1▸n)) f;grind
def shL (af:Nat->Nat) (x:Zt):Zt:=(2*(af (Gj x/2).toNat:Int)+Gj x%2,2*(af (Gm x/2).toNat:Int)+Gm x%2,GP x,GY x,())
theorem Zxq {af:Nat->Nat} {f t:Nat} {a c k i:Int} (n:0<=a/\a<=1) (q:0<=c/\c<=1):shL af (Vs (f:Int) (t:Int) a c k i)=Vs (af f:Int) (af t:Int) a c k i:=by
 unfold shL Vs;grind
theorem ZCK (h:ZBQ b r af U) (H:Z7 b) (F:Z7 r) (c:v<(K5 (K2 b)).length) (i:v<(K5 (K2 r)).length) (f:U (v:Int)):Zu2 (K2 r) (v:Int)=(Zu2 (K2 b) (v:Int)).map (shL af):=by
 obtain⟨q,y,E,e,_⟩:=ZAo h H F c i f;unfold Zu2;rw[Zp8 h f,Zy8,ZAq];refine ZtQ _ _ λj s a=>?_;obtain⟨k,p,rfl,_⟩:=Zal.1 (Ud a);rw[E,e];simp only[List.map_cons,KZ,Up];rw[Zxq ⟨by omega,by omega⟩ ⟨by omega,by omega⟩,Zxq ⟨by omega,by omega⟩ ⟨by omega,by omega⟩]
end
variable {x:Zt}
theorem ZsS {d:Zb} {n:Int} (l:x∈Zu2 d n):∃(k:Nat) (p:Pl) (a:Int),(0<=a/\a<=1)/\(Zg d)[k]?=some p/\p.2.2.1=n/\p.2.2.2.1=false/\Gm x=2*(k:Int)+a/\Gj x=2*Ziu d n+a/\GP x=2:=by
 obtain⟨j,s,q,l⟩:=XQ.1 l;obtain⟨k,p,rfl,g,E,i⟩:=Zal.1 (Ud q);simp only[UD,UZ,Ks]at l;rcases l with rfl|rfl
 ·exact⟨k,p,0,by omega,g,E,i,rfl,rfl,rfl⟩
 ·exact⟨k,p,1,by omega,g,E,i,rfl,rfl,rfl⟩
theorem ZmU {b:Za} (h:Z7 b) {i:Nat} {u:Zd} (m:(K3 (K2 b))[i]?=some u) (g:x∈Zie b i u) :
  ∃(f:Nat) (n:Int) (j:Nat) (a c I:Int),f<(Gc u).length/\(0<=a/\a<=1)/\(0<=c/\c<=1)/\x=Vs ((fst (K2 b) i+f:Nat):Int) ((fst (K2 b) i+j:Nat):Int) a c 1 I/\j<(Gc u).length/\(Zg (K2 b))[fst (K2 b) i+j]?=some ((i:Int),(j:Int),n,true,()):=by
 have C:=h.ok.1.few;obtain⟨G,⟨c,H,B⟩,s⟩:=h.ok.1.2.2.1 u (Ud m);have z:=h.ok.1.1.2.1 c (Ud H);unfold Zie at g;rw[H]at g;obtain⟨k,a,A,d⟩:=XQ.1 g;rw[Us]at d;have o:=(z.2.2.1.2 k a A).1;have E:=o.1;have F:=o.2.1;unfold Zo8 at d;obtain⟨p,w,rfl⟩:=Ke.1 d;have r:(0<=p.1/\p.1<=1)/\(0<=p.2.1/\p.2.1<=1)/\(Gf a=1\/Gf a=2\/Gf a=3):=by
  unfold trs at w;repeat' split at w
  all_goals grind
 have D:Gw a=((Gb c).length:Int)-1:=by
  rcases o.2.2 with q|q|q
  all_goals grind
 have v:(Gc u)[(Gw a).toNat]?=some ((Gc u)[(Gw a).toNat]'(by omega)):=Ub _;generalize (Gc u)[(Gw a).toNat]'(by omega)=n at v;have l:=Zbs m v;have y:=ZQ C;have t:=(Ua.1 l).1;refine⟨(Gs a).toNat,n,(Gw a).toNat,p.1,p.2.1,(k:Int),by omega,r.1,r.2.1,?_,by omega,?_⟩
 ·grind
 ·have e:Zgn (K2 b) i=fst (K2 b) i:=rfl
  rw[e]at l;rw[l];unfold ZcI;rw[QR,UU (by omega)]
def toB (u:Int) (x:Zt):Bool:=decide (Gm x=u)
theorem ZD5 {u:Int} {l:List Zt} (h:∀x∈l,Gm x≠u):l.filter (toB u)=[]:=by
 rw[List.filter_eq_nil_iff];intro x H;unfold toB;grind
section
variable {b:Za}
variable {k:Nat} {p:Pl} {a:Int} {i:Nat} {u:Zd}
theorem Zvv (h:Z7 b) (m:(Zg (K2 b))[k]?=some p) (g:0<=a/\a<=1) (l:(K3 (K2 b))[i]?=some u) (H:p.1≠(i:Int)\/p.2.2.2.1=false):(Zie b i u).filter (toB (2*(k:Int)+a))=[]:=ZD5 λx d e=>by
 obtain⟨f,n,j,A,L,I,_,_,q,rfl,_,c⟩:=ZmU h l d;have e:2*((fst (K2 b) i+j:Nat):Int)+L=2*(k:Int)+a:=e;grind
theorem ZAu (g:(Zg (K2 b))[k]?=some p) (d:0<=a/\a<=1) {n:Int} (H:p.2.2.1≠n\/p.2.2.2.1=true):(Zu2 (K2 b) n).filter (toB (2*(k:Int)+a))=[]:=ZD5 λx l e=>by
 obtain⟨j,q,A,h,f,E,i,c,_⟩:=ZsS l;grind
theorem Zp7 (h:Z7 b) (g:(Zg (K2 b))[k]?=some p) (n:0<=a/\a<=1) (N:p.2.2.2.1=true) (l:(K3 (K2 b))[i]?=some u) (H:p.1=(i:Int):=by omega):(Zz b).filter (toB (2*(k:Int)+a))=(Zie b i u).filter (toB (2*(k:Int)+a)):=by
 unfold Zz Zif ZmX;rw[Ki,ZbZ (K4 b) 0 (λv w e=>ZAu g n (.inr N)),Un,ZiX _ 0 i u l (λj y c d=>by
  rw[Us];exact Zvv h g n c (.inl (by omega))),Us]
theorem ZnQ (h:Z7 b) (g:(Zg (K2 b))[k]?=some p) (n:0<=a/\a<=1) (N:p.2.2.2.1=true) (i:p.1<0):(Zz b).filter (toB (2*(k:Int)+a))=[]:=by
 unfold Zz Zif ZmX;rw[Ki,ZbZ (K4 b) 0 (λv w c=>ZAu g n (.inr N)),Un];exact ZbZ _ 0 λj y H=>by
  rw[Us];exact Zvv h g n H (.inl (by omega))
theorem ZnR (h:Z7 b) {v:Nat} (g:(Zg (K2 b))[k]?=some p) (n:0<=a/\a<=1) (N:p.2.2.2.1=false) (H:v<(K4 b).length) (V:p.2.2.1=(v:Int)):(Zz b).filter (toB (2*(k:Int)+a))=(Zu2 (K2 b) (v:Int)).filter (toB (2*(k:Int)+a)):=by
 have c:(K4 b)[v]?=some ((K4 b)[v]'H):=Ub _;unfold Zz Zif ZmX;rw[Ki,ZbZ (K3 (K2 b)) 0 (λj y i=>by
  rw[Us];exact Zvv h g n i (.inr N)),Uw,ZiX _ 0 v _ c (λj y i d=>by
  rw[Us];exact ZAu g n (.inl (by omega))),Us]
end
variable {af:Nat->Nat}
theorem ZmJ {u u':Int} {l:List Zt} (h:∀x∈l,Gm (shL af x)=u'<->Gm x=u):(l.map (shL af)).filter (toB u')=(l.filter (toB u)).map (shL af):=by
 rw[List.filter_map];congr 1;refine List.filter_congr λx H=>?_;show toB u' (shL af x)=toB u x;unfold toB;grind
theorem ZAp {b r:Za} {U:Int->Prop} {A:Nat->Prop} (h:Loc b r af U A) (d:Z7 b) (F:Z7 r) (hU:∀v:Nat,U (v:Int)->v<(K4 r).length) {k:Nat} {p:Pl} (g:(Zg (K2 b))[k]?=some p) (w:U p.2.2.1) {a:Int} (m:0<=a/\a<=1) :
  (Zz r).filter (toB (2*(af k:Int)+a))=((Zz b).filter (toB (2*(k:Int)+a))).map (shL af):=by
 have C:=h.to k p g w;have s:=XP d.ok.1 (Ud g);obtain⟨v,B⟩:∃v:Nat,p.2.2.1=(v:Int):=⟨p.2.2.1.toNat,by have:=s.1;omega⟩;have K:v<(K5 (K2 b)).length:=by have:=s.2;omega
 have L:v<(K4 r).length:=hU v (B▸w);have a3:=d.ok.2.1;have a4:=F.ok.2.1;cases N:p.2.2.2.1 with
 |false =>
  rw[ZnR F C m N L B,ZnR d g m N (by omega) B,ZCK h.toZBQ d F K (by omega) (B▸w)];refine ZmJ λx c=>?_;obtain⟨j,q,W,a0,hq,e1,e2,X,_⟩:=ZsS c;have E:Gm (shL af x)=2*(af j:Int)+W:=by
   show 2*(af (Gm x/2).toNat:Int)+Gm x%2=_;grind
  rw[E,X];constructor
  ·intro e
   have:=ZEU h.toZBQ hq g (by grind) w;omega
  grind
 |true =>
  by_cases t:p.1<0
  ·rw[ZnQ F C m N t,ZnQ d g m N t]
   rfl
  ·obtain⟨x,x',c,O,hc,hf,H⟩:=h.inst k p g w (by omega)
   have S:p.1=(p.1.toNat:Int):=by omega
   rw[Zp7 F C m N O S,Zp7 d g m N c S];have Y:Zie r p.1.toNat x'=Zie b p.1.toNat x:=by
    unfold Zie;rw[h.lib,hc,hf]
   have em:(Zie b p.1.toNat x).map (shL af)=Zie b p.1.toNat x:=by
    refine(Kj λy P=>?_).trans (List.map_id _);obtain⟨f,n,j,D,c1,R,o,M,i,rfl,z,_⟩:=ZmU d c P;rw[Zxq M i,(H f o).2,(H j z).2];rfl
   rw[Y];have:=ZmJ (af:=af) (u:=2*(k:Int)+a) (u':=2*(af k:Int)+a) (l:=Zie b p.1.toNat x) λy P=>by
    obtain⟨f,n,j,D,c1,R,o,M,i,rfl,z,a2⟩:=ZmU d c P;have E:Gm (shL af (Vs ((fst (K2 b) p.1.toNat+f:Nat):Int) ((fst (K2 b) p.1.toNat+j:Nat):Int) D c1 1 R))=2*(af (fst (K2 b) p.1.toNat+j):Int)+c1:=by
     rw[Zxq M i];rfl
    have G:Gm (Vs ((fst (K2 b) p.1.toNat+f:Nat):Int) ((fst (K2 b) p.1.toNat+j:Nat):Int) D c1 1 R)=2*((fst (K2 b) p.1.toNat+j:Nat):Int)+c1:=rfl;have hk:∃j0,j0<(Gc x).length/\k=fst (K2 b) p.1.toNat+j0:=by
     rcases QN g with⟨Q,j0,x0,n0,T,Z,V,g4⟩|⟨j0,q0,T,Z,V⟩
     ·have I:p.1.toNat=Q:=by rw[g4];show(Q:Int).toNat=Q;omega
      rw[I]at c ⊢;rw[T]at c;injection c with c
      exact⟨j0,by grind,V⟩
     grind
    obtain⟨j0,J,rfl⟩:=hk;rw[E,G,(H j z).2,(H j0 J).2]
   grind
theorem Zhx {e:Zh} (h:sm XI e):sm .str (Gg e)/\sm ZbR (GG e):=⟨h.2.2.2.2.2.1,h.2.2.2.2.2.2.1⟩
def Zkz (w:Zq):Prop:=K8 w=[]/\GB w=[]/\GE w=[]/\Gu w=[]
theorem ZAz (w:Zq) (c:sm ZbR w):(some (Decidable.decide (Wq (Wq (Wq ((↑(List.length (K8 w)):Int)+(↑(List.length (GB w)):Int))+(↑(List.length (GE w)):Int))+(↑(List.length (Gu w)):Int))=(0:Int))):Option Bool)=some (tr (Zkz w)):=by
 obtain⟨a,A,j,k⟩:=Zk1 c;have s:=Zv a;have S:=Zv A;have t:=Zv j;have b:=Zv k;rw[QR (n:=((K8 w).length:Int)+((GB w).length:Int)),QR (n:=((K8 w).length:Int)+((GB w).length:Int)+((GE w).length:Int)),QR];refine Zdl ?_;rw[Ul];unfold Zkz;rw[<-KM,<-KM,<-KM,<-KM];omega
def Blank (e:Zh):Prop :=
 (K7 e=1/\Gk e=0/\GC e=0/\Gg e=[]/\Zkz (GG e))\/
 (K7 e=2/\Gk e=0/\GC e=0/\Zkz (GG e))\/
 (K7 e=3/\K9 e=0/\Gy e=0/\Gk e=0/\GC e=0/\Gg e=[]/\Zkz (GG e))\/
 (K7 e=4/\Gy e=0/\Gg e=[]/\Zkz (GG e))\/
 (K7 e=5/\K9 e=0/\Gy e=0/\GC e=0/\Gg e=[])
variable (e:Zh)
theorem Zkq (m:sm XI e):ZhP e=some (tr (Blank e)):=by
 have h:=ZAz (GG e) (Zhx m).2;unfold ZhP;rw[h];by_cases d:K7 e=1
 ·rw[Uc d]
  refine ZaH (YP λ_=>YP λ_=>YP λ_=>rfl) ?_;unfold Blank;grind
 rw[Ue d];by_cases f:K7 e=2
 ·rw[Uc f]
  refine ZaH (YP λ_=>YP λ_=>rfl) ?_;unfold Blank;grind
 rw[Ue f];by_cases R:K7 e=3
 ·rw[Uc R]
  refine ZaH (YP λ_=>YP λ_=>YP λ_=>YP λ_=>YP λ_=>rfl) ?_;unfold Blank;grind
 rw[Ue R];by_cases o:K7 e=4
 ·rw[Uc o]
  refine ZaH (YP λ_=>YP λ_=>rfl) ?_;unfold Blank;grind
 rw[Ue o];by_cases s:K7 e=5
 ·rw[Uc s]
  refine ZaH (YP λ_=>YP λ_=>YP λ_=>Zdl Kf) ?_;unfold Blank;grind
 ·rw[Ue s]
  refine Zoa ?_;unfold Blank;grind
theorem Zd6 (a b:List Int) (n:a.length<=1048576):XL a b=some (tr (a=b)):=by
 unfold XL;by_cases c:(a.length:Int)=(b.length:Int)
 ·rw[Uc c,V8 (l:=a) (show Len a by unfold Len;omega) (λk x=>b[k]?=some x) (bad:=false) (good:=true)
   (λk x d H _=>by
    have i:b[k]?=some b[k]:=Ub (by omega);simp only[Js,show(k:Int)<(a.length:Int)from by omega,Ui,Zp,d,i,Bq,Option.some.injEq];constructor
    ·intro r;rw[Uc r.symm]
    ·intro r;rw[Ue (λq=>r q.symm)])
   (λ_=>by simp only[Js,Uf,Uh]),Zjo]
  congr 1;refine Zap ⟨λh=>?_,λh=>by subst h;exact λk x d=>d⟩;apply Uy;intro k;by_cases H:k<a.length
  ·rw[h k a[k] (Ub H),Ub H]
  ·rw[UA (by omega),UA (by omega)]
 ·rw[Ue c,Yq (λh=>c (by rw[h]))]
def Zu6 (a b:Zq):Prop:=K8 a=K8 b/\GB a=GB b/\GE a=GE b/\Gu a=Gu b
theorem ZoS (a b:Zq) (n:sm ZbR a):ZhE a b=some (tr (Zu6 a b)):=by
 obtain⟨A,c,j,k⟩:=Zk1 n;have s:=Zv A;have S:=Zv c;have t:=Zv j;have d:=Zv k;unfold ZhE;exact XA (Zd6 _ _ s) λ_=>XA (Zd6 _ _ S) λ_=>XA (Zd6 _ _ t) λ_=>Za6 (Zd6 _ _ d)
theorem ZcX (a b:Zh) (n:sm XI a):ZfQ a b=some (tr (K7 a=K7 b/\K9 a=K9 b/\Gy a=Gy b/\Gk a=Gk b/\GC a=GC b/\Gg a=Gg b/\Zu6 (GG a) (GG b))):=by
 unfold ZfQ;exact YP λ_=>YP λ_=>YP λ_=>YP λ_=>YP λ_=>YP λ_=>Za6 (ZoS _ _ (Zhx n).2)
theorem ZC2 (m:sm XI e):(YC (K7 e) 1 5=some (tr (1<=K7 e/\K7 e<=5)))/\∃o,ZhA e=some o/\ZfQ e o=some (tr (K7 e<1\/5<K7 e\/Blank e))\/(¬(1<=K7 e/\K7 e<=5)):=by
 refine⟨JN _ _ _,?_⟩;unfold ZhA;by_cases k:K7 e=1
 ·rw[Uc k]
  refine⟨_,.inl ⟨rfl,?_⟩⟩;refine ZaH (ZcX e _ m) ?_;rw[show Zu6 (GG e) (GG (K7 e,K9 e,Gy e,(0:Int),(0:Int),([]:List UInt8),(([]:List Int),([]:List Int),([]:List Int),([]:List Int),()),()))<->Zkz (GG e)from Iff.rfl];unfold Blank;simp only[k];constructor
  ·rintro⟨_,_,_,a,b,c,d⟩;exact .inr (.inr (.inl ⟨trivial,a,b,c,d⟩))
  ·intro h;grind
 rw[Ue k];by_cases K:K7 e=2
 ·rw[Uc K]
  refine⟨_,.inl ⟨rfl,?_⟩⟩;refine ZaH (ZcX e _ m) ?_;rw[show Zu6 (GG e) (GG (K7 e,K9 e,Gy e,(0:Int),(0:Int),Gg e,(([]:List Int),([]:List Int),([]:List Int),([]:List Int),()),()))<->Zkz (GG e)from Iff.rfl];unfold Blank;simp only[K];constructor
  ·rintro⟨_,_,_,a,b,c,d⟩;exact .inr (.inr (.inr (.inl ⟨trivial,a,b,d⟩)))
  ·intro h;grind
 rw[Ue K];by_cases i:K7 e=4
 ·rw[Uc i]
  refine⟨_,.inl ⟨rfl,?_⟩⟩;refine ZaH (ZcX e _ m) ?_;rw[show Zu6 (GG e) (GG (K7 e,K9 e,(0:Int),Gk e,GC e,([]:List UInt8),(([]:List Int),([]:List Int),([]:List Int),([]:List Int),()),()))<->Zkz (GG e)from Iff.rfl];unfold Blank;simp only[i];constructor
  ·rintro⟨_,_,a,_,_,c,d⟩;exact .inr (.inr (.inr (.inr (.inr (.inl ⟨trivial,a,c,d⟩)))))
  ·intro h;grind
 rw[Ue i];by_cases s:K7 e=5
 ·rw[Uc s]
  refine⟨_,.inl ⟨rfl,?_⟩⟩;refine ZaH (ZcX e _ m) ?_;rw[show Zu6 (GG e) (GG (K7 e,(0:Int),(0:Int),Gk e,(0:Int),([]:List UInt8),e.snd.snd.snd.snd.snd.snd))<->True from⟨λ_=>trivial,λ_=>⟨rfl,rfl,rfl,rfl⟩⟩];unfold Blank;simp only[s];constructor
  ·rintro⟨_,a,b,_,c,d,_⟩;exact .inr (.inr (.inr (.inr (.inr (.inr ⟨trivial,a,b,c,d⟩)))))
  ·intro h;grind
 rw[Ue s];by_cases R:K7 e=3
 ·refine⟨_,.inl ⟨rfl,?_⟩⟩
  refine ZaH (ZcX e _ m) ?_;rw[show Zu6 (GG e) (GG (K7 e,(0:Int),(0:Int),(0:Int),(0:Int),([]:List UInt8),(([]:List Int),([]:List Int),([]:List Int),([]:List Int),()),()))<->Zkz (GG e)from Iff.rfl];unfold Blank;simp only[R];constructor
  ·rintro⟨_,a,b,c,d,f,g⟩;exact .inr (.inr (.inr (.inr (.inl ⟨trivial,a,b,c,d,f,g⟩))))
  ·intro h;grind
 ·exact⟨e,.inr (by omega)⟩
end Go.Proofs.YtoijdogpgpbddaaGreatDoor
