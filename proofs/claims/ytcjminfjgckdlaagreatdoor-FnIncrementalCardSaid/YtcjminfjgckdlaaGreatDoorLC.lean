/-
  Plain laws: places, one by one; a place put on another net; an instance more, an instance less.
-/
import Derived.Test.YtcjminfjgckdlaaGreatDoorLA
import Derived.Test.YtcjminfjgckdlaaGreatDoorLB
import Derived.Test.YtcjminfjgckdlaaGreatDoorSxSort
namespace Go.Proofs.YtcjminfjgckdlaaGreatDoor
set_option linter.unusedVariables false
set_option linter.unusedSimpArgs false
open Go Go.Sx
theorem Zb7 {α β:Type} {g:Nat->α->β}:∀(l:List α) (m j:Nat),(cat (λj n=>[g j n]) m l)[j]?=(l[j]?).map (g (m+j))
 |[],m,j=>by simp[cat]
 |x::r,m,0=>by simp[cat]
 |x::r,m,j+1=>by
  simp only[cat,List.singleton_append,Kf,Zb7 r];rw[show m+1+j=m+(j+1) by omega]
theorem Zbo {α β:Type} {g:Nat->α->β}:∀(l:List α) (m:Nat),(cat (λj n=>[g j n]) m l).length=l.length
 |[],m=>rfl
 |x::r,m=>by simp only[cat,List.singleton_append,Um,Zbo r]
theorem Zlz {α β:Type} {g:Nat->α->β} (y:α):∀(l:List α) (m j:Nat),cat (λj n=>[g j n]) m (l.set j y)=(cat (λj n=>[g j n]) m l).set j (g (m+j) y)
 |[],m,j=>by simp[cat]
 |x::r,m,0=>by simp[cat]
 |x::r,m,j+1=>by
  simp only[cat,List.singleton_append,List.set_cons_succ,Zlz y r];rw[show m+1+j=m+(j+1) by omega]
variable {i:Nat}
theorem Zhx {α β:Type} (f:Nat->α->List β) {l:List α} {x:α} (h:l[i]?=some x):cat f 0 l=cat f 0 (l.take i)++(f i x++cat f (i+1) (l.drop (i+1))):=by
 have H:=(Ub.1 h).1;have e:l=l.take i++(x::l.drop (i+1)):=by
  have N:l.drop i=x::l.drop (i+1):=by
   rw[Kx H];congr 1;exact(Ub.1 h).2
  rw[<-N,KG]
 have E:=US (cat f 0) e;rw[ZeT]at E;simp only[cat,Us,Uj]at E;rw[show min i l.length=i by omega]at E;exact E
variable {j:Nat}
theorem ZD3 {α β:Type} (f:Nat->α->List β) {l:List α} {x y:α} {z:β} (h:l[i]?=some x) (b:j<(f i x).length) (a:f i y=(f i x).set j z):cat f 0 (l.set i y)=(cat f 0 l).set ((cat f 0 (l.take i)).length+j) z:=by
 have H:=(Ub.1 h).1;rw[Zhx f h,Zhx f (l:=l.set i y) (x:=y) (UD H),List.take_set,List.set_eq_of_length_le (by rw[Uj];omega),List.drop_set_of_lt (by omega),a,List.set_append,QQ,List.set_append,QP,Nat.add_sub_cancel_left]
abbrev ZgN (d:Zb) (i:Nat):Nat:=(cat YR 0 ((KY d).take i)).length
abbrev YA (d:Zb):Nat:=(cat YR 0 (KY d)).length
def Ze7 (i:Nat) (x:Ze) (j:Nat) (n:Int):Pl:=((i:Int),(j:Int),n,decide ((j:Int)=Wq (((K7 x).length:Int)-1)),())
theorem Zmu (i:Nat) (x:Ze):YR i x=cat (λj n=>[Ze7 i x j n]) 0 (K7 x):=rfl
variable {n:Int}
theorem Zhr {x:Ze} (h:(K7 x)[j]?=some n):(YR i x)[j]?=some (Ze7 i x j n):=by
 rw[Zmu,Zb7,h,Us];rfl
theorem Je (i:Nat) (x:Ze):(YR i x).length=(K7 x).length:=by rw[Zmu,Zbo]
variable (l:List Z8) (m:Nat)
theorem ZmE:cat ZbQ m l=cat (λj p=>[((-1:Int),(j:Int),GH p,decide (GC p=1),())]) m l:=rfl
theorem Zua:(cat ZbQ m l).length=l.length:=by rw[ZmE,Zbo]
variable {d:Zb}
theorem Zb1 {x:Ze} (l:(KY d)[i]?=some x) (f:(K7 x)[j]?=some n):(places d)[ZgN d i+j]?=some (Ze7 i x j n):=by
 have b:=(Ub.1 f).1;unfold places;rw[Zhx YR l,Uk,UI (by unfold ZgN;omega),show ZgN d i+j-(cat YR 0 ((KY d).take i)).length=j by unfold ZgN;omega,Uk,Uu (by rw[Je];exact b)];exact Zhr f
theorem ZsV {q:Z8} (b:(Ga d)[j]?=some q):(places d)[YA d+j]?=some ((-1:Int),(j:Int),GH q,decide (GC q=1),()):=by
 unfold places;rw[UI (by unfold YA;omega),show YA d+j-(cat YR 0 (KY d)).length=j by unfold YA;omega,ZmE,Zb7,b,Us];rfl
variable {k:Nat} {p:Pl}
theorem V5 (g:(places d)[k]?=some p) :
  (∃(i j:Nat) (x:Ze) (n:Int),(KY d)[i]?=some x/\(K7 x)[j]?=some n/\k=ZgN d i+j/\p=Ze7 i x j n)\/
  (∃(j:Nat) (q:Z8),(Ga d)[j]?=some q/\k=YA d+j/\p=((-1:Int),(j:Int),GH q,decide (GC q=1),())):=by
 by_cases m:k<YA d
 ·left
  have H:(cat YR 0 (KY d))[k]?=some p:=by
   unfold places at g
   rwa [Uu (show k<(cat YR 0 (KY d)).length from m)]at g
  have find:∀(n:Nat),n<=(KY d).length->k<ZgN d n->∃i,i<n/\ZgN d i<=k/\k<ZgN d (i+1):=by
   intro n;induction n with
   |zero=>intro _ h;simp[ZgN,cat]at h
   |succ n I =>
    intro f t;by_cases e:k<ZgN d n
    ·obtain⟨i,a,b,c⟩:=I (by omega) e
     exact⟨i,by omega,b,c⟩
    ·exact⟨n,by omega,by omega,t⟩
  obtain⟨i,s,v,r⟩:=find (KY d).length (UO _) (by unfold ZgN;rw[Uo];exact m);have l:(KY d)[i]?=some (KY d)[i]:=Ua s;generalize (KY d)[i]=x at l;have w:ZgN d (i+1)=ZgN d i+(K7 x).length:=by
   unfold ZgN;rw[ZcS l,Ug,Je]
  have u:k-ZgN d i<(K7 x).length:=by omega
  have f:(K7 x)[k-ZgN d i]?=some (K7 x)[k-ZgN d i]:=Ua u;generalize (K7 x)[k-ZgN d i]=n at f;refine⟨i,k-ZgN d i,x,n,l,f,by omega,?_⟩;have o:=Zb1 l f;rw[show ZgN d i+(k-ZgN d i)=k by omega,g]at o;injection o
 ·right
  have H:(cat ZbQ 0 (Ga d))[k-YA d]?=some p:=by
   unfold places at g
   rwa [UI (show(cat YR 0 (KY d)).length<=k from Nat.le_of_not_lt m)]at g
  rw[ZmE,Zb7,Us]at H;cases e:(Ga d)[k-YA d]? with
  |none=>rw[e]at H;cases H
  |some q =>
   rw[e]at H;injection H with H
   exact⟨k-YA d,q,e,by omega,H.symm⟩
theorem key_inj {K:Nat} {P:Pl} (g:(places d)[k]?=some p) (C:(places d)[K]?=some P) (h:p.1=P.1) (f:p.2.1=P.2.1):k=K:=by
 rcases V5 g with⟨i,j,x,n,_,_,e,rfl⟩|⟨j,q,_,e,rfl⟩<;>rcases V5 C with⟨S,J,X,N,_,_,E,rfl⟩|⟨J,Q,_,E,rfl⟩
 ·simp only[Ze7]at h f
  have:i=S:=by omega
  have:j=J:=by omega
  subst S J;omega
 ·simp only[Ze7]at h;omega
 ·simp only[Ze7]at h;omega
 ·simp only at f
  omega
def ZfS (x:Ze) (j:Nat) (n:Int):Ze:=(Gv x,Gq x,List.set (K7 x) j n,())
def setPort (q:Z8) (n:Int):Z8:=(GQ q,GC q,n,())
def conn (d:Zb) (a b:Int) (n:Int):Zb :=
 if a<0 then (KY d,K1 d,match (Ga d)[b.toNat]? with
  |some q=>(Ga d).set b.toNat (setPort q n)
  | none=>Ga d,())
 else (match (KY d)[a.toNat]? with
  |some x=>(KY d).set a.toNat (ZfS x b.toNat n)
  | none=>KY d,K1 d,Ga d,())
theorem ZAd (i:Nat) (x:Ze) (j:Nat) (n:Int):YR i (ZfS x j n)=(YR i x).set j (Ze7 i x j n):=by
 rw[Zmu,Zmu];show cat (λ(J:Nat) (m:Int)=>[Ze7 i (ZfS x j n) J m]) 0 (List.set (K7 x) j n)=_;have:(λ(J:Nat) (m:Int)=>[Ze7 i (ZfS x j n) J m])=λJ m=>[Ze7 i x J m]:=by
  funext J m;have q:(K7 (ZfS x j n)).length=(K7 x).length:=UF;simp only[Ze7,q]
 rw[this,Zlz,Us]
theorem X3 (g:(places d)[k]?=some p) (n:Int):places (conn d p.1 p.2.1 n)=(places d).set k (p.1,p.2.1,n,p.2.2.2.1,()):=by
 rcases V5 g with⟨i,j,x,m,l,f,e,rfl⟩|⟨j,q,h,e,rfl⟩
 ·have b:=(Ub.1 f).1
  have E:conn d (Ze7 i x j m).1 (Ze7 i x j m).2.1 n=((KY d).set i (ZfS x j n),K1 d,Ga d,()):=by
   unfold conn;rw[Ue (by simp only[Ze7];omega)];simp only[Ze7,Up,l]
  rw[E];unfold places;show cat YR 0 ((KY d).set i (ZfS x j n))++cat ZbQ 0 (Ga d)=_;have t:k<(cat YR 0 (KY d)).length:=by
   rw[Zhx YR l,Ug,Ug,Je];unfold ZgN at e;omega
  rw[ZD3 YR l (j:=j) (z:=Ze7 i x j n) (by rw[Je];exact b) (ZAd i x j n),List.set_append,Uc t,e];rfl
 ·have E:conn d (-1) (j:Int) n=(KY d,K1 d,(Ga d).set j (setPort q n),()):=by
   unfold conn;rw[QP];simp only[Up,h]
  show places (conn d (-1) (j:Int) n)=_;rw[E];unfold places;show cat YR 0 (KY d)++cat ZbQ 0 ((Ga d).set j (setPort q n))=_;rw[List.set_append,Ue (by unfold YA at e;omega),ZmE,Zlz,Us,e,show YA d+j-(cat YR 0 (KY d)).length=j by unfold YA;omega,ZmE];rfl
def nth (pl:List Pl) (net:Int) (k:Nat):Nat:=(cat (QZ net) 0 (pl.take k)).length
variable {net:Int}
theorem ZiX (h:¬(p.2.2.1=net/\p.2.2.2.1=false)):QZ net k p=[]:=by
 unfold QZ;grind
theorem ZiY (d:p.2.2.1=net) (f:p.2.2.2.1=false):QZ net k p=[(k:Int)]:=by
 unfold QZ;grind
variable {pl:List Pl}
theorem Zku (g:pl[k]?=some p) (d:p.2.2.1=net) (f:p.2.2.2.1=false):(cat (QZ net) 0 pl)[nth pl net k]?=some (k:Int):=by
 rw[Zhx (QZ net) g,ZiY d f];unfold nth;grind
theorem Zqx {v:Int} (a:v∈cat (QZ net) 0 pl):∃(k:Nat) (p:Pl),v=(k:Int)/\pl[k]?=some p/\p.2.2.1=net/\p.2.2.2.1=false:=by
 obtain⟨k,p,g,a⟩:=Xx.1 a;by_cases h:p.2.2.1=net/\p.2.2.2.1=false
 ·rw[ZiY h.1 h.2]at a
  grind
 ·rw[ZiX h]at a
  cases a
theorem ZzK (g:pl[k]?=some p) (d:p.2.2.1=net) (f:p.2.2.2.1=false):nth pl net k<(cat (QZ net) 0 pl).length:=(Ub.1 (Zku g d f)).1
def Xv (b:Za) (k:Nat):Int:=match (places (KX b))[k]? with
 |some p=>if p.2.2.2.1=true then 0 else match (KZ b)[p.2.2.1.toNat]? with
  |some w=>((Gm w)[nth (places (KX b)) p.2.2.1 k]?).getD 0
  |none=>0
 |none=>0
def Zf9 (w:Zq) (l:List Int):Zq:=(K3 w,Gx w,GD w,l,())
def wired (pl:List Pl) (ws:List Zq) (nd:Nat->Int):List Zq:=cat (λv w=>[Zf9 w ((cat (QZ (v:Int)) 0 pl).map (λk=>nd k.toNat))]) 0 ws
theorem ZcA (pl:List Pl) (ws:List Zq) (nd:Nat->Int) (v:Nat):(wired pl ws nd)[v]?=(ws[v]?).map (λw=>Zf9 w ((cat (QZ (v:Int)) 0 pl).map (λk=>nd k.toNat))):=by
 unfold wired;rw[Zb7,Us]
theorem ZgL (pl:List Pl) (ws:List Zq) (nd:Nat->Int):(wired pl ws nd).length=ws.length:=Zbo _ _
def ZhU (pl:List Pl) (ws:List Zq) (nd:Nat->Int) (k:Nat):List Zq:=wired (pl.take k) ws nd
variable {ws:List Zq} {nd:Nat->Int}
theorem ZuG {w:Zq} (g:pl[k]?=some p) (f:p.2.2.2.1=false) (m:0<=p.2.2.1) (c:ws[p.2.2.1.toNat]?=some w) :
  (ZhU pl ws nd k)[p.2.2.1.toNat]?=some (Zf9 w ((cat (QZ p.2.2.1) 0 (pl.take k)).map (λk=>nd k.toNat)))/\
  (ZhU pl ws nd k).set p.2.2.1.toNat (Zf9 w ((cat (QZ p.2.2.1) 0 (pl.take k)).map (λk=>nd k.toNat)++[nd k]))=ZhU pl ws nd (k+1):=by
 have H:=(Ub.1 g).1;have t:=(Ub.1 c).1;unfold ZhU;constructor
 ·rw[ZcA,c,show(p.2.2.1.toNat:Int)=p.2.2.1 by omega]
  rfl
 ·apply Ux
  intro v;rw[UN,ZcA,ZcA];have h:∀net:Int,cat (QZ net) 0 (pl.take (k+1))=cat (QZ net) 0 (pl.take k)++QZ net k p:=λnet=>ZcS g;split
  ·rename_i e
   subst e;rw[ZgL,Uc t,c,h,show(p.2.2.1.toNat:Int)=p.2.2.1 by omega,ZiY rfl f,U8]
   simp_all
  ·rename_i e
   congr 1;funext w';congr 1;rw[h,ZiX (λq=>e (by have:=q.1;omega)),Un]
theorem ZuF (g:pl[k]?=some p) (f:p.2.2.2.1=true):ZhU pl ws nd (k+1)=ZhU pl ws nd k:=by
 unfold ZhU;apply Ux;intro v;rw[ZcA,ZcA];congr 1;funext w';congr 1;rw[ZcS g,ZiX (λq=>by grind),Un]
theorem ZDq:∀(l l':List Int),l.Pairwise (·<·)->l'.Pairwise (·<·)->(∀x,x∈l<->x∈l')->l=l'
 |[],[],_,_,_=>rfl
 |[],y::l',_,_,h=>by have:=(h y).2 UH;cases this
 |x::l,[],_,_,h=>by have:=(h x).1 UH;cases this
 |x::l,y::l',d,f,h=>by
  rw[List.pairwise_cons]at d f;have e:x=y:=by
   rcases UB.1 ((h x).1 UH)with q|q
   ·exact q
   ·rcases UB.1 ((h y).2 UH)with z|z
    all_goals grind
  subst e;rw[ZDq l l' d.2 f.2 λz=>⟨λT=>?_,λT=>?_⟩];all_goals grind
theorem ZyH {α β γ:Type} {f:Nat->β->List γ} (g:α->β):∀(l:List α) (m:Nat),cat f m (l.map g)=cat (λj s=>f j (g s)) m l
 |[],_=>rfl
 |x::l,m=>by
  show f m (g x)++cat f (m+1) (l.map g)=f m (g x)++cat (λj s=>f j (g s)) (m+1) l;rw[ZyH g l (m+1)]
theorem Zzx {α β γ:Type} {f:Nat->α->List β} (h:β->γ):∀(l:List α) (m:Nat),(cat f m l).map h=cat (λj s=>(f j s).map h) m l
 |[],_=>rfl
 |x::l,m=>by
  show(f m x++cat f (m+1) l).map h=(f m x).map h++cat (λj s=>(f j s).map h) (m+1) l;rw[U8,Zzx h l (m+1)]
theorem ZtB {α β:Type} {f g:Nat->α->List β}:∀(l:List α) (m:Nat),(∀k x,l[k]?=some x->f (m+k) x=g (m+k) x)->cat f m l=cat g m l
 |[],_,_=>rfl
 |x::l,m,h=>by
  show f m x++cat f (m+1) l=g m x++cat g (m+1) l;have H:=h 0 x rfl;rw[Kd]at H;rw[H];refine US (λz=>g m x++z) (ZtB l (m+1) λk y i=>?_);rw[show m+1+k=m+(k+1) by omega]
  simp_all
theorem ZbF {α β:Type} {f:Nat->α->List β} {P:β->Bool}:∀(l:List α) (m:Nat),(∀k y,l[k]?=some y->(f (m+k) y).filter P=[])->(cat f m l).filter P=[]
 |[],_,_=>rfl
 |x::l,m,h=>by
  show (f m x++cat f (m+1) l).filter P=[];have H:=h 0 x rfl;rw[Kd] at H;rw[Kh,H,ZbF l (m+1) λk y i=>by
   rw[show m+1+k=m+(k+1) by omega];exact h (k+1) y (by grind)]
  rfl
theorem Ziv {α β:Type} {f:Nat->α->List β} {P:β->Bool}:∀(l:List α) (m i:Nat) (x:α),l[i]?=some x->(∀k y,l[k]?=some y->k≠i->(f (m+k) y).filter P=[])->(cat f m l).filter P=(f (m+i) x).filter P
 |[],_,i,x,H,_=>by simp at H
 |y::l,m,0,x,H,h=>by
  have e:y=x:=by simpa using H
  subst e;show (f m y++cat f (m+1) l).filter P=_;rw[Kh,ZbF l (m+1) λk z T=>by
   rw[show m+1+k=m+(k+1) by omega];exact h (k+1) z (by grind) (by omega),Un]
  rfl
 |y::l,m,i+1,x,H,h=>by
  show (f m y++cat f (m+1) l).filter P=_;have a:=h 0 y rfl (by omega);rw[Kd] at a;rw[Kh,a,Uv,Ziv l (m+1) i x (by grind) λk z T b=>by
   rw[show m+1+k=m+(k+1) by omega];exact h (k+1) z (by grind) (by omega)]
  grind
theorem Zs3 (n:Int):∀(l:List Pl) (m:Nat),(cat (QZ n) m l).Pairwise (·<·)/\∀x∈cat (QZ n) m l,(m:Int)<=x
 |[],m=>⟨List.Pairwise.nil,λx h=>by cases h⟩
 |p::l,m=>by
  obtain⟨d,f⟩:=Zs3 n l (m+1);show(QZ n m p++cat (QZ n) (m+1) l).Pairwise (·<·)/\∀x∈QZ n m p++cat (QZ n) (m+1) l,(m:Int)<=x;by_cases q:p.2.2.1=n/\p.2.2.2.1=false
  ·rw[ZiY q.1 q.2]
   grind
  ·rw[ZiX q]
   grind
theorem J2 {y:Int}:y∈sinks d n<->∃(k:Nat) (p:Pl),y=(k:Int)/\(places d)[k]?=some p/\p.2.2.1=n/\p.2.2.2.1=false:=by
 constructor
 ·exact λh=>Zqx h
 ·rintro⟨k,p,rfl,g,H,f⟩
  exact Ud (Zku g H f)
structure ZAW (b r:Za) (af:Nat->Nat) (U:Int->Prop):Prop where
 to:∀(k:Nat) (p:Pl),(places (KX b))[k]?=some p->U p.2.2.1->(places (KX r))[af k]?=some p
 fro:∀(k:Nat) (p:Pl),(places (KX r))[k]?=some p->U p.2.2.1->∃j,af j=k/\(places (KX b))[j]?=some p
 mono:∀(j k:Nat) (p q:Pl),(places (KX b))[j]?=some p->(places (KX b))[k]?=some q->U p.2.2.1->U q.2.2.1->j<k->af j<af k
structure Loc (b r:Za) (af:Nat->Nat) (U:Int->Prop) (A:Nat->Prop):Prop extends ZAW b r af U where
 lib:K4 r=K4 b
 wire:∀v:Nat,U (v:Int)->(KZ r)[v]?=(KZ b)[v]?
 inst:∀(k:Nat) (p:Pl),(places (KX b))[k]?=some p->U p.2.2.1->0<=p.1->∃x x':Ze,(KY (KX b))[p.1.toNat]?=some x/\(KY (KX r))[p.1.toNat]?=some x'/\Gq x'=Gq x/\fst (KX r) p.1.toNat=fst (KX b) p.1.toNat/\∀j,j<(K7 x).length->A (fst (KX b) p.1.toNat+j)/\af (fst (KX b) p.1.toNat+j)=fst (KX b) p.1.toNat+j
 alv:∀(k:Nat) (p:Pl),(places (KX b))[k]?=some p->U p.2.2.1->A k
section
variable {b r:Za} {af:Nat->Nat} {U:Int->Prop}
theorem ZEx (h:ZAW b r af U) {j k:Nat} {p q:Pl} (g:(places (KX b))[j]?=some p) (H:(places (KX b))[k]?=some q) (up:U p.2.2.1) (u:U q.2.2.1) (e:af j=af k:=by omega):j=k:=by
 rcases KJ j k with l|l|l
 ·have:=h.mono j k p q g H up u l;omega
 ·exact l
 ·have:=h.mono k j q p H g u up l;omega
theorem Zqa (h:ZAW b r af U) {n:Int} (f:U n):sinks (KX r) n=(sinks (KX b) n).map λy=>(af y.toNat:Int):=by
 refine ZDq _ _ (Zs3 n _ 0).1 ?_ λx=>?_
 ·rw[List.pairwise_map]
  refine(Zs3 n (places (KX b)) 0).1.imp_of_mem λ{x y} l H d=>?_;obtain⟨j,p,rfl,g,E,_⟩:=J2.1 l;obtain⟨k,q,rfl,c,i,_⟩:=J2.1 H;have:=h.mono j k p q g c (E▸f) (i▸f) (by omega);grind
 ·rw[J2,Kg]
  constructor
  ·rintro⟨k,p,rfl,g,E,i⟩
   obtain⟨j,rfl,a⟩:=h.fro k p g (E▸f);exact⟨(j:Int),J2.2 ⟨j,p,rfl,a,E,i⟩,by grind⟩
  ·rintro⟨y,H,rfl⟩
   obtain⟨k,p,rfl,g,E,i⟩:=J2.1 H;rw[Up];exact⟨af k,p,rfl,h.to k p g (E▸f),E,i⟩
variable {v:Nat}
theorem Zzv (h:ZAW b r af U) (a:Z4 b) (F:Z4 r) (c:v<(K1 (KX b)).length) (i:v<(K1 (KX r)).length) (n:U (v:Int)):∃(q:Nat) (y:Pl),ZhW (KX b) (v:Int)=(q:Int)/\ZhW (KX r) (v:Int)=(af q:Int)/\(places (KX b))[q]?=some y/\y.2.2.1=(v:Int)/\y.2.2.2.1=true:=by
 obtain⟨q,y,d,f,j,_⟩:=ZpF a.ok.1 (Jb a.sm).2.1 c;obtain⟨Q,Y,g,e,t,G⟩:=ZpF F.ok.1 (Jb F.sm).2.1 i;have H:=f;unfold ZuJ at H;rw[Ur,Ul]at H;have:=G (af q) y (h.to q y d (H.1▸n)) f;grind
def shL (af:Nat->Nat) (x:Zp):Zp:=(2*(af (Gd x/2).toNat:Int)+Gd x%2,2*(af (Gf x/2).toNat:Int)+Gf x%2,GL x,GU x,())
theorem ZwZ {af:Nat->Nat} {f t:Nat} {a c k i:Int} (n:0<=a/\a<=1) (q:0<=c/\c<=1):shL af (Vd (f:Int) (t:Int) a c k i)=Vd (af f:Int) (af t:Int) a c k i:=by
 unfold shL Vd;grind
theorem ZBJ (h:ZAW b r af U) (H:Z4 b) (F:Z4 r) (c:v<(K1 (KX b)).length) (i:v<(K1 (KX r)).length) (f:U (v:Int)):ZuK (KX r) (v:Int)=(ZuK (KX b) (v:Int)).map (shL af):=by
 obtain⟨q,y,E,e,_⟩:=Zzv h H F c i f;unfold ZuK;rw[Zqa h f,ZyH,Zzx];refine ZtB _ _ λj s a=>?_;obtain⟨k,p,rfl,_⟩:=J2.1 (Ud a);rw[E,e];simp only[List.map_cons,KV,Up];rw[ZwZ ⟨by omega,by omega⟩ ⟨by omega,by omega⟩,ZwZ ⟨by omega,by omega⟩ ⟨by omega,by omega⟩]
end
variable {x:Zp}
theorem ZsL {d:Zb} {n:Int} (l:x∈ZuK d n):∃(k:Nat) (p:Pl) (a:Int),(0<=a/\a<=1)/\(places d)[k]?=some p/\p.2.2.1=n/\p.2.2.2.1=false/\Gf x=2*(k:Int)+a/\Gd x=2*ZhW d n+a/\GL x=2:=by
 obtain⟨j,s,q,l⟩:=Xx.1 l;obtain⟨k,p,rfl,g,E,i⟩:=J2.1 (Ud q);simp only[UB,UZ,Kv]at l;rcases l with rfl|rfl
 ·exact⟨k,p,0,by omega,g,E,i,rfl,rfl,rfl⟩
 ·exact⟨k,p,1,by omega,g,E,i,rfl,rfl,rfl⟩
theorem Zmt {b:Za} (h:Z4 b) {i:Nat} {u:Ze} (m:(KY (KX b))[i]?=some u) (g:x∈ZhI b i u) :
  ∃(f:Nat) (n:Int) (j:Nat) (a c I:Int),f<(K7 u).length/\(0<=a/\a<=1)/\(0<=c/\c<=1)/\x=Vd ((fst (KX b) i+f:Nat):Int) ((fst (KX b) i+j:Nat):Int) a c 1 I/\j<(K7 u).length/\(places (KX b))[fst (KX b) i+j]?=some ((i:Int),(j:Int),n,true,()):=by
 have C:=h.ok.1.few;obtain⟨G,⟨c,H,B⟩,s⟩:=h.ok.1.2.2.1 u (Ud m);have z:=h.ok.1.1.2.1 c (Ud H);unfold ZhI at g;rw[H]at g;obtain⟨k,a,A,d⟩:=Xx.1 g;rw[Us]at d;have o:=(z.2.2.1.2 k a A).1;have E:=o.1;have F:=o.2.1;unfold Zo7 at d;obtain⟨p,w,rfl⟩:=Kg.1 d;have r:(0<=p.1/\p.1<=1)/\(0<=p.2.1/\p.2.1<=1)/\(Gb a=1\/Gb a=2\/Gb a=3):=by
  unfold trs at w;repeat' split at w
  all_goals grind
 have D:Gp a=((K5 c).length:Int)-1:=by
  rcases o.2.2 with q|q|q
  all_goals grind
 have v:(K7 u)[(Gp a).toNat]?=some ((K7 u)[(Gp a).toNat]'(by omega)):=Ua _;generalize (K7 u)[(Gp a).toNat]'(by omega)=n at v;have l:=Zb1 m v;have y:=ZT C;have t:=(Ub.1 l).1;refine⟨(Gk a).toNat,n,(Gp a).toNat,p.1,p.2.1,(k:Int),by omega,r.1,r.2.1,?_,by omega,?_⟩
 ·grind
 ·have e:ZgN (KX b) i=fst (KX b) i:=rfl
  rw[e]at l;rw[l];unfold Ze7;rw[QR,UQ (by omega)]
def toB (u:Int) (x:Zp):Bool:=decide (Gf x=u)
theorem ZDE {u:Int} {l:List Zp} (h:∀x∈l,Gf x≠u):l.filter (toB u)=[]:=by
 rw[List.filter_eq_nil_iff];intro x H;unfold toB;grind
section
variable {b:Za}
variable {k:Nat} {p:Pl} {a:Int} {i:Nat} {u:Ze}
theorem Zvb (h:Z4 b) (m:(places (KX b))[k]?=some p) (g:0<=a/\a<=1) (l:(KY (KX b))[i]?=some u) (H:p.1≠(i:Int)\/p.2.2.2.1=false):(ZhI b i u).filter (toB (2*(k:Int)+a))=[]:=ZDE λx d e=>by
 obtain⟨f,n,j,A,L,I,_,_,q,rfl,_,c⟩:=Zmt h l d;have e:2*((fst (KX b) i+j:Nat):Int)+L=2*(k:Int)+a:=e;grind
theorem ZzB (g:(places (KX b))[k]?=some p) (d:0<=a/\a<=1) {n:Int} (H:p.2.2.1≠n\/p.2.2.2.1=true):(ZuK (KX b) n).filter (toB (2*(k:Int)+a))=[]:=ZDE λx l e=>by
 obtain⟨j,q,A,h,f,E,i,c,_⟩:=ZsL l;grind
theorem Zp8 (h:Z4 b) (g:(places (KX b))[k]?=some p) (n:0<=a/\a<=1) (N:p.2.2.2.1=true) (l:(KY (KX b))[i]?=some u) (H:p.1=(i:Int):=by omega):(Zu b).filter (toB (2*(k:Int)+a))=(ZhI b i u).filter (toB (2*(k:Int)+a)):=by
 unfold Zu ZhJ Zmw;rw[Kh,ZbF (KZ b) 0 (λv w e=>ZzB g n (.inr N)),Un,Ziv _ 0 i u l (λj y c d=>by
  rw[Us];exact Zvb h g n c (.inl (by omega))),Us]
theorem ZnI (h:Z4 b) (g:(places (KX b))[k]?=some p) (n:0<=a/\a<=1) (N:p.2.2.2.1=true) (i:p.1<0):(Zu b).filter (toB (2*(k:Int)+a))=[]:=by
 unfold Zu ZhJ Zmw;rw[Kh,ZbF (KZ b) 0 (λv w c=>ZzB g n (.inr N)),Un];exact ZbF _ 0 λj y H=>by
  rw[Us];exact Zvb h g n H (.inl (by omega))
theorem ZnJ (h:Z4 b) {v:Nat} (g:(places (KX b))[k]?=some p) (n:0<=a/\a<=1) (N:p.2.2.2.1=false) (c:v<(KZ b).length) (H:p.2.2.1=(v:Int)):(Zu b).filter (toB (2*(k:Int)+a))=(ZuK (KX b) (v:Int)).filter (toB (2*(k:Int)+a)):=by
 have w:(KZ b)[v]?=some ((KZ b)[v]'c):=Ua _;unfold Zu ZhJ Zmw;rw[Kh,ZbF (KY (KX b)) 0 (λj y i=>by
  rw[Us];exact Zvb h g n i (.inr N)),Uv,Ziv _ 0 v _ w (λj y i d=>by
  rw[Us];exact ZzB g n (.inl (by omega))),Us]
end
theorem Zmg {af:Nat->Nat} {u u':Int} {l:List Zp} (h:∀x∈l,Gf (shL af x)=u'<->Gf x=u):(l.map (shL af)).filter (toB u')=(l.filter (toB u)).map (shL af):=by
 rw[List.filter_map];congr 1;refine List.filter_congr λx H=>?_;show toB u' (shL af x)=toB u x;unfold toB;grind
variable {k:Nat} {p:Pl} {a:Int}
theorem Zzw {b r:Za} {af:Nat->Nat} {U:Int->Prop} {A:Nat->Prop} (h:Loc b r af U A) (d:Z4 b) (F:Z4 r) (hU:∀v:Nat,U (v:Int)->v<(KZ r).length) (g:(places (KX b))[k]?=some p) (w:U p.2.2.1) (m:0<=a/\a<=1) :
  (Zu r).filter (toB (2*(af k:Int)+a))=((Zu b).filter (toB (2*(k:Int)+a))).map (shL af):=by
 have C:=h.to k p g w;have s:=Qe d.ok.1 (Ud g);obtain⟨v,B⟩:∃v:Nat,p.2.2.1=(v:Int):=⟨p.2.2.1.toNat,by have:=s.1;omega⟩;have K:v<(K1 (KX b)).length:=by have:=s.2;omega
 have L:v<(KZ r).length:=hU v (B▸w);have a3:=d.ok.2.1;have a4:=F.ok.2.1;cases N:p.2.2.2.1 with
 |false =>
  rw[ZnJ F C m N L B,ZnJ d g m N (by omega) B,ZBJ h.toZAW d F K (by omega) (B▸w)];refine Zmg λx c=>?_;obtain⟨j,q,W,a0,hq,e1,e2,X,_⟩:=ZsL c;have E:Gf (shL af x)=2*(af j:Int)+W:=by
   show 2*(af (Gf x/2).toNat:Int)+Gf x%2=_;grind
  rw[E,X];constructor
  ·intro e
   have:=ZEx h.toZAW hq g (by grind) w;omega
  grind
 |true =>
  by_cases t:p.1<0
  ·rw[ZnI F C m N t,ZnI d g m N t]
   rfl
  ·obtain⟨x,x',c,O,hc,hf,H⟩:=h.inst k p g w (by omega)
   have S:p.1=(p.1.toNat:Int):=by omega
   rw[Zp8 F C m N O S,Zp8 d g m N c S];have Y:ZhI r p.1.toNat x'=ZhI b p.1.toNat x:=by
    unfold ZhI;rw[h.lib,hc,hf]
   have em:(ZhI b p.1.toNat x).map (shL af)=ZhI b p.1.toNat x:=by
    refine(Kw λy P=>?_).trans (List.map_id _);obtain⟨f,n,j,D,c1,R,o,M,i,rfl,z,_⟩:=Zmt d c P;rw[ZwZ M i,(H f o).2,(H j z).2];rfl
   rw[Y];have:=Zmg (af:=af) (u:=2*(k:Int)+a) (u':=2*(af k:Int)+a) (l:=ZhI b p.1.toNat x) λy P=>by
    obtain⟨f,n,j,D,c1,R,o,M,i,rfl,z,a2⟩:=Zmt d c P;have E:Gf (shL af (Vd ((fst (KX b) p.1.toNat+f:Nat):Int) ((fst (KX b) p.1.toNat+j:Nat):Int) D c1 1 R))=2*(af (fst (KX b) p.1.toNat+j):Int)+c1:=by
     rw[ZwZ M i];rfl
    have G:Gf (Vd ((fst (KX b) p.1.toNat+f:Nat):Int) ((fst (KX b) p.1.toNat+j:Nat):Int) D c1 1 R)=2*((fst (KX b) p.1.toNat+j:Nat):Int)+c1:=rfl;have hk:∃j0,j0<(K7 x).length/\k=fst (KX b) p.1.toNat+j0:=by
     rcases V5 g with⟨Q,j0,x0,n0,T,Z,V,g4⟩|⟨j0,q0,T,Z,V⟩
     ·have I:p.1.toNat=Q:=by rw[g4];show(Q:Int).toNat=Q;omega
      rw[I]at c ⊢;rw[T]at c;injection c with c
      exact⟨j0,by grind,V⟩
     grind
    obtain⟨j0,J,rfl⟩:=hk;rw[E,G,(H j z).2,(H j0 J).2]
   grind
variable {e:Zg}
theorem ZjR (h:sm Qh e):sm .str (Gi e)/\sm ZcR (GA e):=⟨h.2.2.2.2.2.1,h.2.2.2.2.2.2.1⟩
def Zk5 (w:Zq):Prop:=K3 w=[]/\Gx w=[]/\GD w=[]/\Gm w=[]
variable (w:Zq)
theorem ZzG (c:sm ZcR w):(some (Decidable.decide (Wq (Wq (Wq ((↑(List.length (K3 w)):Int)+(↑(List.length (Gx w)):Int))+(↑(List.length (GD w)):Int))+(↑(List.length (Gm w)):Int))=(0:Int))):Option Bool)=some (tr (Zk5 w)):=by
 obtain⟨a,A,j,k⟩:=Zls c;have s:=Zw a;have S:=Zw A;have t:=Zw j;have b:=Zw k;rw[QR (n:=((K3 w).length:Int)+((Gx w).length:Int)),QR (n:=((K3 w).length:Int)+((Gx w).length:Int)+((GD w).length:Int)),QR];refine ZcT ?_;rw[Ul];unfold Zk5;rw[<-KL,<-KL,<-KL,<-KL];omega
def Blank (e:Zg):Prop :=
 (K2 e=1/\Gl e=0/\Gz e=0/\Gi e=[]/\Zk5 (GA e))\/
 (K2 e=2/\Gl e=0/\Gz e=0/\Zk5 (GA e))\/
 (K2 e=3/\K8 e=0/\Gw e=0/\Gl e=0/\Gz e=0/\Gi e=[]/\Zk5 (GA e))\/
 (K2 e=4/\Gw e=0/\Gi e=[]/\Zk5 (GA e))\/
 (K2 e=5/\K8 e=0/\Gw e=0/\Gz e=0/\Gi e=[])
theorem ZjS (e:Zg) (h:sm Qh e):Zhj e=some (tr (Blank e)):=by
 have H:=ZzG (GA e) (ZjR h).2;unfold Zhj;rw[H];by_cases d:K2 e=1
 ·rw[Uc d]
  refine Zan (YG λ_=>YG λ_=>YG λ_=>rfl) ?_;unfold Blank;grind
 rw[Ue d];by_cases f:K2 e=2
 ·rw[Uc f]
  refine Zan (YG λ_=>YG λ_=>rfl) ?_;unfold Blank;grind
 rw[Ue f];by_cases R:K2 e=3
 ·rw[Uc R]
  refine Zan (YG λ_=>YG λ_=>YG λ_=>YG λ_=>YG λ_=>rfl) ?_;unfold Blank;grind
 rw[Ue R];by_cases m:K2 e=4
 ·rw[Uc m]
  refine Zan (YG λ_=>YG λ_=>rfl) ?_;unfold Blank;grind
 rw[Ue m];by_cases n:K2 e=5
 ·rw[Uc n]
  refine Zan (YG λ_=>YG λ_=>YG λ_=>ZcT Ke) ?_;unfold Blank;grind
 ·rw[Ue n]
  refine Zn0 ?_;unfold Blank;grind
theorem ZdD (a b:List Int) (n:a.length<=1048576):Xy a b=some (tr (a=b)):=by
 unfold Xy;by_cases c:(a.length:Int)=(b.length:Int)
 ·rw[Uc c,V3 (l:=a) (show Len a by unfold Len;omega) (λk x=>b[k]?=some x) (bad:=false) (good:=true)
   (λk x d H _=>by
    have i:b[k]?=some b[k]:=Ua (by omega);simp only[Ja,show(k:Int)<(a.length:Int)from by omega,Ui,Zo,d,i,Bq,Option.some.injEq];constructor
    ·intro r;rw[Uc r.symm]
    ·intro r;rw[Ue (λq=>r q.symm)])
   (λ_=>by simp only[Ja,Uf,Uh]),ZiV]
  congr 1;refine J6 ⟨λh=>?_,λh=>by subst h;exact λk x d=>d⟩;apply Ux;intro k;by_cases H:k<a.length
  ·rw[h k a[k] (Ua H),Ua H]
  ·rw[Uy (by omega),Uy (by omega)]
 ·rw[Ue c,Ym (λh=>c (by rw[h]))]
def ZuN (a b:Zq):Prop:=K3 a=K3 b/\Gx a=Gx b/\GD a=GD b/\Gm a=Gm b
theorem ZoS (a b:Zq) (n:sm ZcR a):Zg7 a b=some (tr (ZuN a b)):=by
 obtain⟨A,c,j,k⟩:=Zls n;have s:=Zw A;have S:=Zw c;have t:=Zw j;have d:=Zw k;unfold Zg7;exact Xm (ZdD _ _ s) λ_=>Xm (ZdD _ _ S) λ_=>Xm (ZdD _ _ t) λ_=>ZaM (ZdD _ _ d)
theorem Zcw (a b:Zg) (n:sm Qh a):Zfq a b=some (tr (K2 a=K2 b/\K8 a=K8 b/\Gw a=Gw b/\Gl a=Gl b/\Gz a=Gz b/\Gi a=Gi b/\ZuN (GA a) (GA b))):=by
 unfold Zfq;exact YG λ_=>YG λ_=>YG λ_=>YG λ_=>YG λ_=>YG λ_=>ZaM (ZoS _ _ (ZjR n).2)
theorem ZB1 (e:Zg) (m:sm Qh e):(Yy (K2 e) 1 5=some (tr (1<=K2 e/\K2 e<=5)))/\∃o,Zg2 e=some o/\Zfq e o=some (tr (K2 e<1\/5<K2 e\/Blank e))\/(¬(1<=K2 e/\K2 e<=5)):=by
 refine⟨Jt _ _ _,?_⟩;unfold Zg2;by_cases k:K2 e=1
 ·rw[Uc k]
  refine⟨_,.inl ⟨rfl,?_⟩⟩;refine Zan (Zcw e _ m) ?_;rw[show ZuN (GA e) (GA (K2 e,K8 e,Gw e,(0:Int),(0:Int),([]:List UInt8),(([]:List Int),([]:List Int),([]:List Int),([]:List Int),()),()))<->Zk5 (GA e)from Iff.rfl];unfold Blank;simp only[k];constructor
  ·rintro⟨_,_,_,a,b,c,d⟩;exact .inr (.inr (.inl ⟨trivial,a,b,c,d⟩))
  ·intro h;grind
 rw[Ue k];by_cases K:K2 e=2
 ·rw[Uc K]
  refine⟨_,.inl ⟨rfl,?_⟩⟩;refine Zan (Zcw e _ m) ?_;rw[show ZuN (GA e) (GA (K2 e,K8 e,Gw e,(0:Int),(0:Int),Gi e,(([]:List Int),([]:List Int),([]:List Int),([]:List Int),()),()))<->Zk5 (GA e)from Iff.rfl];unfold Blank;simp only[K];constructor
  ·rintro⟨_,_,_,a,b,c,d⟩;exact .inr (.inr (.inr (.inl ⟨trivial,a,b,d⟩)))
  ·intro h;grind
 rw[Ue K];by_cases i:K2 e=4
 ·rw[Uc i]
  refine⟨_,.inl ⟨rfl,?_⟩⟩;refine Zan (Zcw e _ m) ?_;rw[show ZuN (GA e) (GA (K2 e,K8 e,(0:Int),Gl e,Gz e,([]:List UInt8),(([]:List Int),([]:List Int),([]:List Int),([]:List Int),()),()))<->Zk5 (GA e)from Iff.rfl];unfold Blank;simp only[i];constructor
  ·rintro⟨_,_,a,_,_,c,d⟩;exact .inr (.inr (.inr (.inr (.inr (.inl ⟨trivial,a,c,d⟩)))))
  ·intro h;grind
 rw[Ue i];by_cases n:K2 e=5
 ·rw[Uc n]
  refine⟨_,.inl ⟨rfl,?_⟩⟩;refine Zan (Zcw e _ m) ?_;rw[show ZuN (GA e) (GA (K2 e,(0:Int),(0:Int),Gl e,(0:Int),([]:List UInt8),e.snd.snd.snd.snd.snd.snd))<->True from⟨λ_=>trivial,λ_=>⟨rfl,rfl,rfl,rfl⟩⟩];unfold Blank;simp only[n];constructor
  ·rintro⟨_,a,b,_,c,d,_⟩;exact .inr (.inr (.inr (.inr (.inr (.inr ⟨trivial,a,b,c,d⟩)))))
  ·intro h;grind
 rw[Ue n];by_cases R:K2 e=3
 ·refine⟨_,.inl ⟨rfl,?_⟩⟩
  refine Zan (Zcw e _ m) ?_;rw[show ZuN (GA e) (GA (K2 e,(0:Int),(0:Int),(0:Int),(0:Int),([]:List UInt8),(([]:List Int),([]:List Int),([]:List Int),([]:List Int),()),()))<->Zk5 (GA e)from Iff.rfl];unfold Blank;simp only[R];constructor
  ·rintro⟨_,a,b,c,d,f,g⟩;exact .inr (.inr (.inr (.inr (.inl ⟨trivial,a,b,c,d,f,g⟩))))
  ·intro h;grind
 ·exact⟨e,.inr (by omega)⟩
def Zc1 (b:Za) (e:Zg):Prop :=
 ((K2 e=1\/K2 e=2)->(0<=K8 e/\K8 e<=((places (KX b)).length:Int)-1)/\(0<=Gw e/\Gw e<=((K9 (K4 b)).length:Int)-1))/\
 (K2 e=4->(0<=K8 e/\K8 e<=((places (KX b)).length:Int)-1)/\ZbE (KX b) (Gl e)/\∃w,(KZ b)[(Gl e).toNat]?=some w/\(0<=Gz e/\Gz e<=((K3 w).length:Int)-1))/\
 (K2 e=5->ZbE (KX b) (Gl e))
variable {n:Int}
theorem ZjH {b:Za} (h:Z4 b) (f:ZbE (KX b) n):∃w,(KZ b)[n.toNat]?=some w/\atI (KZ b) n=some w/\Zcq w ((sinks (KX b) n).length:Int):=by
 have Z:=h.ok.2.1;have t:n.toNat<(KZ b).length:=by have:=f.1;have:=f.2;omega
 have c:=Ua t;refine⟨_,c,Yw f.1 c,?_⟩;have this:Zcq _ ((sinks (KX b) (n.toNat:Int)).length:Int):=h.ok.2.2 n.toNat _ c
 rwa [show(n.toNat:Int)=n by have:=f.1;omega]at this
theorem ZpA {b:Za} (h:Z4 b):(K9 (K4 b)).length<=1048576:=Zw (Zrd (Jb h.sm).1)
theorem ZzH {b:Za} (h:Z4 b) (e:Zg) {w:Zq} (c:(KZ b)[(Gl e).toNat]?=some w):Wq (((K3 w).length:Int)-1)=((K3 w).length:Int)-1:=by
 have:=h.ok.2.2 _ _ c;have d:=this.1;rw[QR]
theorem ZjT {b:Za} (h:Z4 b) (e:Zg) (t:sm Qh e):Zhk b e=some (tr (Zc1 b e)):=by
 have H:=h.ok.1;have f:=H.few;have l:=ZT f;have s:=ZpA h;have Z:=h.ok.2.1;have r:=H.2.1.2.1;have E:Wq (((places (KX b)).length:Int)-1)=((places (KX b)).length:Int)-1:=QR;have i:Wq (((K9 (K4 b)).length:Int)-1)=((K9 (K4 b)).length:Int)-1:=QR;have a:Wq (((KZ b).length:Int)-1)=((K1 (KX b)).length:Int)-1:=by rw[QR];omega
 have net:(ZY (Gl e) 0 (((K1 (KX b)).length:Int)-1))=some (tr (ZbE (KX b) (Gl e))):=JB _ _ _;unfold Zhk;rw[ZN _ f,Bq,E,i,a];have p:((ZY (K8 e) 0 (((places (KX b)).length:Int)-1)).bind λx=>if x=true then(ZY (Gw e) 0 (((K9 (K4 b)).length:Int)-1)).bind λy=>some y else some false) =
   some (tr ((0<=K8 e/\K8 e<=((places (KX b)).length:Int)-1)/\(0<=Gw e/\Gw e<=((K9 (K4 b)).length:Int)-1))) :=
  Xm (JB _ _ _) λ_=>ZaM (JB _ _ _)
 have v:((ZY (K8 e) 0 (((places (KX b)).length:Int)-1)).bind λx=>if x=true then (ZY (Gl e) 0 (((K1 (KX b)).length:Int)-1)).bind λy=>if y=true then
    (atI (KZ b) (Gl e)).bind λw=>(ZY (Gz e) 0 (Wq (((K3 w).length:Int)-1))).bind λz=>some z else some false else some false) =
   some (tr ((0<=K8 e/\K8 e<=((places (KX b)).length:Int)-1)/\ZbE (KX b) (Gl e)/\∃w,(KZ b)[(Gl e).toNat]?=some w/\(0<=Gz e/\Gz e<=((K3 w).length:Int)-1))):=by
  refine Xm (JB _ _ _) λ_=>Xm net λj=>?_;obtain⟨w,c,g,_⟩:=ZjH h j;rw[g,Bq,ZzH h e c];refine Zan (ZaM (JB _ _ _)) ⟨λq=>⟨w,c,q⟩,λ⟨w',o,q⟩=>?_⟩;grind
 by_cases d:K2 e=1
 ·rw[Uc d,Uc d]
  refine Zan p ?_;unfold Zc1;grind
 rw[Ue d];by_cases k:K2 e=2
 ·rw[Uc k]
  refine Zan p ?_;unfold Zc1;grind
 rw[Ue k];by_cases m:K2 e=4
 ·rw[Uc m]
  refine Zan v ?_;unfold Zc1;grind
 rw[Ue m];by_cases n:K2 e=5
 ·rw[Uc n]
  refine Zan (ZaM net) ?_;unfold Zc1;grind
 ·rw[Ue n]
  refine(ZcT (P:=Zc1 b e) ⟨λ_=>?_,λ_=>rfl⟩);unfold Zc1;grind
theorem ZnC {b:Za} (h:Z4 b) (e:Zg) (t:sm Qh e):Zcc e b=some (tr (Blank e/\Zc1 b e)):=by
 have r:=h.ok.1;have f:=r.few;have v:=ZT f;have B:=ZpA h;have d:=(Jb h.sm).2.1;have E:Wq (((places (KX b)).length:Int)-1)=((places (KX b)).length:Int)-1:=QR;have l:Wq (((K9 (K4 b)).length:Int)-1)=((K9 (K4 b)).length:Int)-1:=QR;obtain⟨c,o,x⟩:=ZB1 e t;unfold Zcc;rw[c,Bq];by_cases H:1<=K2 e/\K2 e<=5
 ·rw[Uc (ZX H)]
  rcases x with⟨a,I⟩|x
  ·rw[a,Bq,I,Bq]
   by_cases j:Blank e
   ·rw[Uc (ZX (.inr (.inr j))),ZQ _ f,Bq,show Y1 (places (KX b))=some ((places (KX b)).length:Int) from rfl,Bq,E,Jt,Bq,
     show Q7 (K9 (K4 b))=some ((K9 (K4 b)).length:Int) from rfl]
    simp only[Bq,l];have net:=ZdR (KX b) (Gl e) d;have p:(if tr (0<=K8 e/\K8 e<=((places (KX b)).length:Int)-1)=true then(Yy (Gw e) 0 (((K9 (K4 b)).length:Int)-1)).bind λy=>some y else some false) =
      some (tr ((0<=K8 e/\K8 e<=((places (KX b)).length:Int)-1)/\(0<=Gw e/\Gw e<=((K9 (K4 b)).length:Int)-1))) :=
     ZFz (ZaM (Jt _ _ _))
    by_cases k:K2 e=1
    ·rw[Uc k,Uc k]
     refine Zan p ?_;unfold Zc1;grind
    rw[Ue k];by_cases K:K2 e=2
    ·rw[Uc K]
     refine Zan p ?_;unfold Zc1;grind
    rw[Ue K];by_cases m:K2 e=4
    ·rw[Uc m]
     have M:(if tr (0<=K8 e/\K8 e<=((places (KX b)).length:Int)-1)=true then (Xo (KX b) (Gl e)).bind λy=>if y=true then
        (atI (KZ b) (Gl e)).bind λw=>(Xp (K3 w)).bind λn=>(Yy (Gz e) 0 (Wq (n-1))).bind λz=>some z else some false else some false) =
       some (tr ((0<=K8 e/\K8 e<=((places (KX b)).length:Int)-1)/\ZbE (KX b) (Gl e)/\∃w,(KZ b)[(Gl e).toNat]?=some w/\(0<=Gz e/\Gz e<=((K3 w).length:Int)-1))):=by
      by_cases g:0<=K8 e/\K8 e<=((places (KX b)).length:Int)-1
      ·rw[Uc (ZX g)]
       refine Zan (Xm net λu=>?_) (P:=ZbE (KX b) (Gl e)/\∃w,(KZ b)[(Gl e).toNat]?=some w/\(0<=Gz e/\Gz e<=((K3 w).length:Int)-1)) ⟨λq=>⟨g,q⟩,λq=>q.2⟩;obtain⟨w,c,s,_⟩:=ZjH h u;rw[s,Bq,VE,Bq,ZzH h e c];refine Zan (ZaM (Jt _ _ _)) ⟨λq=>⟨w,c,q⟩,λ⟨w',A,q⟩=>?_⟩;grind
      ·rw[Ue (λq=>g ((YL _).1 q)),Ym (λq=>g q.1)]
     refine Zan M ?_;unfold Zc1;grind
    rw[Ue m];by_cases i:K2 e=5
    ·rw[Uc i]
     refine Zan (ZaM net) ?_;unfold Zc1;grind
    ·rw[Ue i]
     refine(ZcT (P:=Blank e/\Zc1 b e) ⟨λ_=>⟨j,?_⟩,λ_=>rfl⟩);unfold Zc1;grind
   ·rw[Ue (λq=>by rcases(YL _).1 q with q|q|q<;>first|omega|exact j q),Ym (λq=>j q.1)]
  ·exact absurd H x
 ·rw[Ue (λq=>H ((YL _).1 q)),Ym (λq=>?_)]
  have:=q.1;unfold Blank at this;omega
theorem ZAY (a b:Zn) (n:sm ZcQ a):Zg5 a b=Zbg a b/\∃r,Zbg a b=some r:=by
 have s:(K5 a).length<=1048576:=by have:=(ZAj n).pins.1;omega
 unfold Zg5 Zbg Ye;by_cases k:GG a=GG b
 ·rw[Uc k,Uc k]
  by_cases q:((K5 a).length:Int)=((K5 b).length:Int)
  ·rw[Uc q,Uc q]
   rw[V3 (l:=K5 a) (show Len _ by unfold Len;omega) (λk x=>∀ y,(K5 b)[k]?=some y->(Gj x == Gj y)=true) (bad:=false) (good:=true)
    (step:=λv=>ZP (K5 a) (K5 b) v.1)
    (λk x h H _=>by
     have i:(K5 b)[k]?=some (K5 b)[k]:=Ua (by omega);simp only[ZP,ZgO,show (k:Int)<((K5 a).length:Int) from by omega,Ui,Zo,h,i,Bq,Option.some.injEq,forall_eq'];grind)
    (λ_=>by simp only[ZP,Uf,Uh]),
    V3 (l:=K5 a) (show Len _ by unfold Len;omega) (λk x=>∀y,(K5 b)[k]?=some y->(Gj x==Gj y)=true) (bad:=false) (good:=true)
    (step:=λv=>Zcm a b v.1)
    (λk x h H _=>by
     have i:(K5 b)[k]?=some (K5 b)[k]:=Ua (by omega);simp only[Zcm,show (k:Int)<((K5 a).length:Int) from by omega,Ui,Zo,h,i,Bq,Option.some.injEq,forall_eq'];grind)
    (λ_=>by simp only[Zcm,Uf,Uh])]
   grind
  grind
 grind
variable (d:Zb) (s:List UInt8)
theorem Zkg (N:sm Y8 d):ZcV d s=some (Zao (λx=>decide (Gv x=s)) (KY d))/\ZcY d s=some (Zao (λx=>decide (Gv x=s)) (KY d)):=by
 have q:=Qy (Zck N).1;constructor
 ·unfold ZcV
  rw[Qu q (λx=>decide (Gv x=s)) (λx _=>rfl),Bq]
 ·unfold ZcY
  refine QN q (out:=λi=>i) (λk x l=>?_) ?_
  ·have H:=(Ub.1 l).1
   simp only[ZbR,show(k:Int)<((KY d).length:Int)from by omega,Ui,Zo,l,Bq,Ul];split<;>rfl
  ·simp only[ZbR,Uf,Uh]
theorem ZlL (N:sm Y8 d):Zbw d s=some (Zao (λx=>decide (s=x)) (K1 d))/\Zhg d s=some (Zao (λx=>decide (s=x)) (K1 d)):=by
 have q:=Qy (Zck N).2.2;constructor
 ·unfold Zbw
  rw[ZgD q,Bq]
 ·unfold Zhg ZjA
  rw[QN q (p:=λx=>decide (s=x)) (out:=λi=>i) (λk x l=>by
   have H:=(Ub.1 l).1;simp only[ZeC,show (k:Int)<((K1 d).length:Int) from by omega,Ui,Zo,l,Bq,Ul];grind) (by simp only[ZeC,Uf,Uh]),Bq]
def ZjZ (b:Za):Prop:=∃(x:Ze) (c:Zn) (w:Zq) (m:Int),
 0<(KY (KX b)).length/\(KY (KX b))[(KY (KX b)).length-1]?=some x/\
 (K9 (K4 b))[(Gq x).toNat]?=some c/\GG c=1/\(K5 c).length=2/\
 (K7 x).length=2/\atI (K7 x) 0=some m/\atI (K7 x) 1=some (((K1 (KX b)).length:Int)-1)/\m≠((K1 (KX b)).length:Int)-1/\
 atI (K1 (KX b)) (((K1 (KX b)).length:Int)-1)=some (Gv x)/\
 atI (KZ b) (((K1 (KX b)).length:Int)-1)=some w/\(Gm w).length=1/\(sinks (KX b) (((K1 (KX b)).length:Int)-1)).length=1/\(K3 w).length=1/\atI (GD w) 0=some 0
theorem ZA5 {b:Za} (h:Z4 b):∃r,ZaC b=some r/\Ze2 b=some r/\
  (r=true->ZjZ b):=by
 have d:=h.ok.1;have o:=d.few;have A:=o.insts;have B:=d.2.1.2.1;have Z:=h.ok.2.1;unfold ZaC Ze2;by_cases g:((KY (KX b)).length:Int)=0
 ·rw[Uc g,g,QR,QP]
  grind
 rw[Ue g,YE (n:=((KY (KX b)).length:Int)-1),QQ];have a:(KY (KX b)).length-1<(KY (KX b)).length:=by omega
 have l:=Ua a;generalize (KY (KX b))[(KY (KX b)).length-1]=x at l;have J:atI (KY (KX b)) (((KY (KX b)).length:Int)-1)=some x:=Yw (by omega) (by simp_all);obtain⟨⟨c0,c1⟩,⟨c,m,p⟩,t⟩:=d.2.2.1 x (Ud l);have z:atI (K9 (K4 b)) (Gq x)=some c:=Yw c0 m;rw[J];simp only[Bq,z,show Xr (K1 (KX b))=some ((K1 (KX b)).length:Int)from rfl];rw[show Jh c=JZ c from rfl];have f:JZ c=some (tr (GG c=1/\(K5 c).length=2)):=by
  unfold JZ;refine Zan (YG λ_=>ZcT Ke) ?_;omega
 rw[f,Bq,Bq];by_cases H:GG c=1/\(K5 c).length=2
 ·rw[Uc (ZX H),Uc (ZX H)]
  have T:(K7 x).length=2:=by rw[p];exact H.2
  have n0:atI (K7 x) 0=some ((K7 x)[0]'(by omega)):=Ua (by omega);have n1:atI (K7 x) 1=some ((K7 x)[1]'(by omega)):=Ua (by omega);have K:=t ((K7 x)[1]'(by omega)) (List.getElem_mem _);have I:1<=(K1 (KX b)).length:=by have:=K.1;have:=K.2;omega
  generalize (K7 x)[1]'(by omega)=D at n1 K;generalize (K7 x)[0]'(by omega)=M at n0;have E:Wq (((K1 (KX b)).length:Int)-1)=((K1 (KX b)).length:Int)-1:=QR;have v:Wq (((KZ b).length:Int)-1)=((K1 (KX b)).length:Int)-1:=by grind
  have C:ZbE (KX b) (((K1 (KX b)).length:Int)-1):=⟨by omega,by omega⟩;obtain ⟨w,F,e,y⟩:=ZjH h C;have N:atI (K1 (KX b)) (((K1 (KX b)).length:Int)-1)=some ((K1 (KX b))[(K1 (KX b)).length-1]'(by omega)):=Yw (by omega) (by
   simp_all)
  generalize (K1 (KX b))[(K1 (KX b)).length-1]'(by omega)=L at N;have G:atI (GD w) 0=some ((GD w)[0]'(by have:=y.1;have:=y.2.2.1;omega)):=Ua (by have:=y.1;have:=y.2.2.1;omega);generalize (GD w)[0]'(by have:=y.1;have:=y.2.2.1;omega)=cp at G;have k:=y.2.2.2.1;simp only[E,v,n0,n1,N,e,Bq,Xb _ _ o,Zio,G];rw[<-k];by_cases Q:D=((K1 (KX b)).length:Int)-1
  ·rw[Uc Q,Uc Q]
   by_cases i:M=((K1 (KX b)).length:Int)-1
   ·simp_all
   ·rw[Ue i]
    by_cases j:L=Gv x
    ·rw[Uc j,Uc j]
     simp only[Ue i];by_cases s:((Gm w).length:Int)=1
     ·rw[Uc s,Uc s]
      by_cases u:((K3 w).length:Int)=1
      ·simp only[Uc u]
       refine⟨_,rfl,rfl,λq=>?_⟩;have O:=of_decide_eq_true q;subst Q O;exact⟨x,c,w,M,by omega,l,m,H.1,H.2,T,n0,n1,i,by rw[N,j],e,by omega,by omega,by omega,G⟩
      ·simp only[Ue u]
       exact⟨_,rfl,rfl,λq=>by cases q⟩
     simp_all
    simp_all
  simp_all
 ·rw[Ue (λq=>H ((YL _).1 q)),Ue (λq=>H ((YL _).1 q))]
  grind
variable {i:Int}
theorem ZuT {b:Za} (h:Z4 b) (m:0<=i) (d:i<=((K9 (K4 b)).length:Int)-1):∃c,atI (K9 (K4 b)) i=some c/\sm ZcQ c:=by
 have t:i.toNat<(K9 (K4 b)).length:=by omega
 have q:=Ua t;exact⟨_,Yw m q,Zba (Zrd (Jb h.sm).1) q⟩
theorem ZsT {b:Za} (h:Z4 b) (m:0<=i) (d:i<=((places (KX b)).length:Int)-1):∃p,atI (places (KX b)) i=some p/\p∈places (KX b):=by
 have t:i.toNat<(places (KX b)).length:=by omega
 have q:=Ua t;exact⟨_,Yw m q,List.getElem_mem _⟩
variable {d:Zb}
theorem ZrM (g:p∈places d) (m:0<=p.1):∃x,(KY d)[p.1.toNat]?=some x/\x∈KY d:=by
 unfold places at g;rcases Ut.1 g with g|g
 ·obtain⟨i,z,l,T⟩:=Xx.1 g
  unfold YR at T;obtain⟨j,n,b,f⟩:=Xx.1 T;grind
 ·obtain⟨j,q,b,h⟩:=Xx.1 g
  simp only[ZbQ,Uw]at h;grind
theorem ZjZ.two {b:Za} (h:ZjZ b):0<(KY (KX b)).length/\∃x,(KY (KX b))[(KY (KX b)).length-1]?=some x/\(K7 x).length=2:=by
 obtain⟨x,c,w,m,d,f,_,_,_,g,_⟩:=h;grind
def ZbC (b:Za) (e:Zg) (p:Pl):Prop:=0<=K8 e/\(places (KX b))[(K8 e).toNat]?=some p
theorem Zr6 {b:Za} (m:0<=K8 e) (g:atI (places (KX b)) (K8 e)=some p):ZbC b e p:=by
 refine⟨m,?_⟩;rw[show K8 e=((K8 e).toNat:Int) by omega,Zo]at g;exact g
theorem ZbC.mem {b:Za} (h:ZbC b e p):p∈places (KX b):=Ud h.2
theorem ZbC.at {b:Za} (h:ZbC b e p):atI (places (KX b)) (K8 e)=some p:=Yw h.1 h.2
def ZC8 (b:Za) (e:Zg):Prop :=
 (K2 e=1->∃(p:Pl) (x:Ze) (c c2:Zn),ZbC b e p/\0<=p.1/\p.2.2.2.1=true/\atI (KY (KX b)) p.1=some x/\atI (K9 (K4 b)) (Gq x)=some c/\atI (K9 (K4 b)) (Gw e)=some c2/\Zbg c c2=some true)/\
 (K2 e=2->∃ (p:Pl) (c:Zn),ZbC b e p/\p.2.2.2.1=false/\atI (K9 (K4 b)) (Gw e)=some c/\GG c=1/\(K5 c).length=2/\Za6 (Gi e)=true/\
  Zao (λx=>decide (Gv x=Gi e)) (KY (KX b))<0/\Zao (λx=>decide (Gi e=x)) (K1 (KX b))<0)/\
 (K2 e=3->ZjZ b)/\
 (K2 e=4->∃p:Pl,ZbC b e p/\p.2.2.2.1=false/\p.2.2.1≠Gl e)/\
 (K2 e=5->Zcq (GA e) ((sinks (KX b) (Gl e)).length:Int))
theorem Zvv {b:Za} (h:Z4 b) (e:Zg) (S:sm Qh e) (P:Blank e) (t:Zc1 b e):∃r,Zby e b=some r/\ZdM b e=some r/\
  (r=true->ZC8 b e):=by
 have G:=h.ok.1;have v:=G.few;have H:=(Jb h.sm).2.1;obtain⟨u,l⟩:=ZjR S;unfold Zby ZdM;rw[ZQ _ v,ZN _ v,Bq,Bq];by_cases K:K2 e=1
 ·rw[Uc K,Uc K]
  obtain⟨⟨p0,p1⟩,c0,c1⟩:=t.1 (.inl K);obtain⟨p,g,m⟩:=ZsT h p0 p1;obtain⟨c2,z,s⟩:=ZuT h c0 c1;rw[g];simp only[Bq,z];by_cases f:(0:Int)<=p.1
  ·rw[Uc f,Uc f]
   by_cases Q:p.2.2.2.1=true
   ·rw[Uc Q,Uc Q]
    obtain⟨x,U,C⟩:=ZrM m f;have J:atI (KY (KX b)) p.1=some x:=Yw f U;obtain⟨⟨N,O⟩,_,_⟩:=G.2.2.1 x C;obtain⟨c,I,X⟩:=ZuT h N O;obtain⟨M,r,F⟩:=ZAY c c2 X;have E:Gn p=p.1:=rfl;have i:GI p=p.1:=rfl;simp only[E,i,J,Bq,I,M,F];exact⟨r,rfl,rfl,λq=>⟨λ_=>⟨p,x,c,c2,Zr6 p0 g,f,Q,J,I,z,by rw[F,q]⟩,λk=>by omega,λk=>by omega,λk=>by omega,λk=>by omega⟩⟩
   simp_all
  ·rw[Ue f,Ue f]
   grind
 rw[Ue K,Ue K];by_cases n:K2 e=2
 ·rw[Uc n,Uc n]
  obtain⟨⟨p0,p1⟩,c0,c1⟩:=t.1 (.inr n);obtain⟨p,g,m⟩:=ZsT h p0 p1;obtain⟨c2,z,s⟩:=ZuT h c0 c1;have j:JZ c2=some (tr (GG c2=1/\(K5 c2).length=2)):=by
   unfold JZ;refine Zan (YG λ_=>ZcT Ke) ?_;omega
  have y:(Gi e).length<=4611686018427387904:=by have:((Gi e).length:Int)<=1048576:=u;omega
  rw[g];simp only[Bq,z,show Jh c2=JZ c2 from rfl,j,Zgp,ZbS _ y,(Zkg _ (Gi e) H).1,(Zkg _ (Gi e) H).2,(ZlL _ (Gi e) H).1,(ZlL _ (Gi e) H).2];have E:GS p=p.2.2.2.1:=rfl;have i:GT p=p.2.2.2.1:=rfl;rw[E,i];by_cases Q:p.2.2.2.1=true
  ·grind
  simp only[Ue Q];by_cases D:tr (GG c2=1/\(K5 c2).length=2)=true
  ·simp only[Uc D]
   by_cases L:Za6 (Gi e)=true
   ·simp only[Uc L]
    split
    ·rename_i W
     refine⟨_,rfl,rfl,λq=>⟨λk=>by omega,λ_=>⟨p,c2,Zr6 p0 g,by simpa using Q,z,((YL _).1 D).1,((YL _).1 D).2,L,W,of_decide_eq_true q⟩,λk=>by omega,λk=>by omega,λk=>by omega⟩⟩
    grind
   grind
  grind
 rw[Ue n,Ue n];by_cases R:K2 e=3
 ·rw[Uc R,Uc R]
  obtain⟨r,a,c,d⟩:=ZA5 h;rw[a,c];exact⟨r,rfl,rfl,λq=>⟨λk=>by omega,λk=>by omega,λ_=>d q,λk=>by omega,λk=>by omega⟩⟩
 rw[Ue R,Ue R];by_cases o:K2 e=4
 ·rw[Uc o,Uc o]
  obtain⟨⟨p0,p1⟩,_⟩:=t.2.1 o;obtain⟨p,g,m⟩:=ZsT h p0 p1;rw[g];simp only[Bq];have E:GS p=p.2.2.2.1:=rfl;have i:GT p=p.2.2.2.1:=rfl;rw[E,i];by_cases Q:p.2.2.2.1=true
  ·simp_all
  ·simp only[Ue Q]
   refine⟨_,rfl,rfl,λq=>⟨λk=>by omega,λk=>by omega,λk=>by omega,λ_=>⟨p,Zr6 p0 g,by simpa using Q,by grind⟩,λk=>by omega⟩⟩
 rw[Ue o,Ue o];have V:K2 e=5:=by unfold Blank at P;omega
 obtain⟨w,T,A,B⟩:=ZjH h (t.2.2 V);rw[A,Xb _ _ v];simp only[Bq,VE,Zlh _ _ l,ZiD _ _ l,B.2.2.2.1];exact⟨_,rfl,rfl,λq=>⟨λk=>by omega,λk=>by omega,λk=>by omega,λk=>by omega,λ_=>(YL _).1 q⟩⟩
structure JV (b:Za) (e:Zg):Prop where
 blk:Z4 b
 blank:Blank e
 range:Zc1 b e
 poss:ZC8 b e
 lim:K2 e=2->(KY (KX b)).length<=13/\(K1 (KX b)).length<=29
theorem JV.last {b:Za} (h:JV b e) (R:K2 e=3):0<(KY (KX b)).length/\∃x,(KY (KX b))[(KY (KX b)).length-1]?=some x/\(K7 x).length=2:=(h.poss.2.2.1 R).two
theorem Zke {b:Za} (h:Z4 b) (e:Zg) (m:sm Qh e):∃c,Zd8 e b=some c/\QU b e=some c/\(c=0->JV b e):=by
 have j:=h.ok;unfold QU Zd8;rw[XO b h.sm,Bq,Uc (ZX j)]
 ·have Z:=j.2.1
  rw[ZnC h e m,ZjS e m,ZjT h e m];simp only[Bq];by_cases H:Blank e
  ·rw[Uc (ZX H)]
   by_cases f:Zc1 b e
   ·rw[Uc (ZX ⟨H,f⟩),Uc (ZX f)]
    obtain⟨r,a,c,d⟩:=Zvv h e m H f;rw[a,c];simp only[Bq];by_cases F:r=true
    ·rw[Uc F,Uc F]
     have y:=j.1.few.insts;have g:=j.1.2.1.2.1;by_cases K:K2 e=2
     ·rw[Uc K,Uc K]
      by_cases Q:((KY (KX b)).length:Int)=14
      ·simp_all
      ·rw[Ue Q,Ue Q]
       by_cases i:((K1 (KX b)).length:Int)=30
       ·simp_all
       ·rw[Ue i,QQ]
        exact⟨_,rfl,rfl,λ_=>⟨h,H,f,d F,λ_=>⟨by omega,by omega⟩⟩⟩
     ·rw[Ue K,Ue K]
      exact⟨_,rfl,rfl,λ_=>⟨h,H,f,d F,λk=>absurd k K⟩⟩
    simp_all
   ·rw[Ue (λq=>f ((YL _).1 q).2),Ue (λq=>f ((YL _).1 q))]
    grind
  ·rw[Ue (λq=>H ((YL _).1 q).1),Ue (λq=>H ((YL _).1 q))]
   grind
theorem Zph:∀(l:List Z8) (m:Nat),(cat ZbQ m l).length=l.length
 |[],_=>rfl
 |x::r,m=>by simp only[cat,Ug,ZbQ,Uq,Zph r,Um];omega
variable {i:Nat} {x:Ze}
theorem Zsw (g:p∈YR i x):p.1=(i:Int):=by
 unfold YR at g;obtain⟨j,n,b,f⟩:=Xx.1 g;grind
theorem ZBx (i:Nat) (x:Ze):(YR i x).length=(K7 x).length:=by
 have:∀(l:List Int) (m:Nat) (c:Int),(cat (λj n=>[((i:Int),(j:Int),n,decide ((j:Int)=c),())]) m l).length=l.length:=by
  intro l;induction l with
  |nil=>intro m c;rfl
  |cons y r h=>intro m c;simp only[cat,Ug,Uq,h,Um];omega
 unfold YR;exact this _ _ _
theorem ZdC (g:(places d)[k]?=some p):(p.1<0<->(places d).length<=k+(Ga d).length)/\-1<=p.1:=by
 have c:(places d).length=(cat YR 0 (KY d)).length+(Ga d).length:=by unfold places;rw[Ug,Zph]
 by_cases a:k<(cat YR 0 (KY d)).length
 ·have h:p∈cat YR 0 (KY d):=by
   unfold places at g;grind
  obtain⟨i,z,l,T⟩:=Xx.1 h;have:=Zsw T;omega
 ·have h:p∈cat ZbQ 0 (Ga d):=by
   unfold places at g;grind
  obtain⟨j,q,H,b⟩:=Xx.1 h;simp only[ZbQ,Uw]at b;grind
theorem ZkM (n:0<(KY d).length) (l:(KY d)[(KY d).length-1]?=some x) (H:(places d)[k]?=some p) (m:0<=p.1:=by omega) :
  p.1=((KY d).length:Int)-1<->(places d).length<=k+(Ga d).length+(K7 x).length:=by
 have f:(places d).length=(cat YR 0 (KY d)).length+(Ga d).length:=by unfold places;rw[Ug,Zph]
 have q:cat YR 0 (KY d)=cat YR 0 ((KY d).take ((KY d).length-1))++YR ((KY d).length-1) x:=by
  rw[<-ZcS l,show(KY d).length-1+1=(KY d).length by omega,Uo]
 have g:=US List.length q;rw[Ug,ZBx]at g;have b:k<(cat YR 0 (KY d)).length:=by
  have:=(ZdC H).1;omega
 have h:(cat YR 0 (KY d))[k]?=some p:=by
  unfold places at H;grind
 rw[q]at h;by_cases c:k<(cat YR 0 ((KY d).take ((KY d).length-1))).length
 ·rw[Uu c]at h
  obtain⟨i,z,a,T⟩:=Xx.1 (Ud h);have e:=Zsw T;grind
 ·rw[UI (by omega)]at h
  have e:=Zsw (Ud h);omega
noncomputable def Zdq (b:Za) (e:Zg) (k:Nat) (p:Pl):Int :=
 if K2 e=2/\p.1<0 then(k:Int)+2
 else if K2 e=3/\p.1<0 then(k:Int)-2
 else if K2 e=3/\p.1=((KY (KX b)).length:Int)-1 then -1
 else(k:Int)
theorem Zrp {b:Za} (f:K2 e=2) (Q:p.1<0):Zdq b e k p=(k:Int)+2:=by unfold Zdq;grind
theorem Zrq {b:Za} (R:K2 e=3) (Q:p.1<0):Zdq b e k p=(k:Int)-2:=by unfold Zdq;grind
theorem ZvY {b:Za} (R:K2 e=3) (Q:¬p.1<0) (q:p.1=((KY (KX b)).length:Int)-1):Zdq b e k p=-1:=by unfold Zdq;grind
theorem Zps {b:Za} (R:K2 e=3) (Q:¬p.1<0:=by omega) (q:¬p.1=((KY (KX b)).length:Int)-1:=by omega):Zdq b e k p=(k:Int):=by unfold Zdq;grind
theorem ZhZ {b:Za} (R:¬K2 e=3) (Q:¬(K2 e=2/\p.1<0)):Zdq b e k p=(k:Int):=by unfold Zdq;grind
noncomputable def after (b:Za) (e:Zg):List Int:=cat (λk p=>[Zdq b e k p]) 0 (places (KX b))
theorem Zo9 {α β:Type} {g:Nat->α->β}:∀(l:List α) (m:Nat),(cat (λj n=>[g j n]) m l).length=l.length
 |[],_=>rfl
 |x::r,m=>by simp only[cat,Ug,Uq,Zo9 r,Um];omega
theorem ZhG {b:Za} (h:JV b e):Jo e b=some (after b e):=by
 have d:=h.blk.ok.1;have H:=d.few;have m:=ZT H;have y:=H.insts;unfold Jo;rw[show QS (KY (KX b))=some ((KY (KX b)).length:Int)from rfl,ZQ _ H,Bq,Bq];have:=XG (l:=places (KX b)) (ρ:=List Int) (λk p=>[Zdq b e k p]) [] (step:=λv=>Vm e ((KY (KX b)).length:Int) (places (KX b)) v.1 v.2.1) (good:=after b e)
  (λk p c r=>by
   have j:=Zo9 (g:=Zdq b e) ((places (KX b)).take k) 0;rw[Uj]at j;have o:=ZdC c;have i:∀n:Int,(([]++cat (λk p=>[Zdq b e k p]) 0 ((places (KX b)).take k)).length+[n].length)*8<=140737488355328:=λn=>by
    grind
   simp only[Vm,show(k:Int)<((places (KX b)).length:Int)from by omega,Ui,Zo,c,Bq,Zi (i _),YW (show k<=1048576 by omega),YE (show(-9223372036854775808:Int)<=(k:Int)+2 by omega),YE (show(-9223372036854775808:Int)<=(k:Int)-2 by omega),YE (show(-9223372036854775808:Int)<=((KY (KX b)).length:Int)-1 by omega),Gn];by_cases f:K2 e=2
   ·have R:¬K2 e=3:=by omega
    by_cases Q:p.1<0
    ·rw[Zrp f Q,Uc f,Uc Q]
    ·rw[ZhZ R (λq=>Q q.2),Uc f,Ue Q,Ue R,Ue R]
   ·rw[Ue f]
    by_cases R:K2 e=3
    ·by_cases Q:p.1<0
     ·rw[Zrq R Q,Uc R,Uc Q]
     ·by_cases a:p.1=((KY (KX b)).length:Int)-1
      ·rw[ZvY R Q a,Uc R,Ue Q,Uc R,Uc a]
      ·rw[Zps R Q a,Uc R,Ue Q,Uc R,Ue a]
    ·rw[ZhZ R (λq=>f q.1),Ue R,Ue R])
  (by simp only[Vm,Uf,Uh];rfl)
 exact this
abbrev Key:Ty:=.pair (.int .i64) (.pair (.int .i64) .unit)
theorem ZsB (x y:Key.den):keq Key x y=true<->x=y:=by
 obtain⟨a,b,⟨⟩⟩:=x;obtain⟨c,d,⟨⟩⟩:=y;simp[keq]
theorem Zqd {k v:Ty} (H:∀x y:k.den,keq k x y=true<->x=y) (x z:k.den) (y:v.den):∀(d:List (k.den×v.den)),ZkI k v (Zoq k v d x y) z=if keq k z x=true then some y else ZkI k v d z
 |[]=>by simp only[Zoq,ZkI]
 |e::l=>by
  by_cases h:keq k x e.1=true
  ·simp only[Zoq,Uc h,ZkI]
   grind
  ·simp only[Zoq,Ue h,ZkI]
   by_cases g:keq k z e.1=true
   ·grind
   ·simp only[Ue g,Zqd H x z y l]
variable {v:Ty} (d:List (Key.den×v.den))
theorem Zqe (x:Key.den) (y:v.den):ZkI Key v (Zoq Key v d x y) x=some y:=by
 rw[Zqd ZsB,Uc ((ZsB _ _).2 rfl)]
variable (y:v.den)
theorem ZnM {x z:Key.den} (h:z≠x):ZkI Key v (Zoq Key v d x y) z=ZkI Key v d z:=by
 rw[Zqd ZsB,Ue (λq=>h ((ZsB _ _).1 q))]
abbrev Zlt:=List (Key.den×(Ty.int .i64).den)
def Zww (p:Pl):Key.den:=(p.1,p.2.1,())
def Maps (nodes:Zlt) (pl:List Pl) (nd:Nat->Int):Prop:=∀(k:Nat) (p:Pl),pl[k]?=some p->p.2.2.2.1=false->ZkI Key (.int .i64) nodes (Zww p)=some (nd k)
variable {d:Zb} {K:Nat}
theorem Zwx {P:Pl} (g:(places d)[k]?=some p) (C:(places d)[K]?=some P) (h:Zww p=Zww P):k=K:=by
 unfold Zww at h;injection h with H f
 injection f with f _
 exact key_inj g C H f
variable {nodes:Zlt} {nd:Nat->Int} {p0:Pl}
theorem Maps.put (h:Maps nodes (places d) nd) (H:(places d)[K]?=some p0) (v:Int):Maps (Zoq Key (.int .i64) nodes (Zww p0) v) (places d) (λk=>if k=K then v else nd k):=by
 intro k p g N;by_cases e:k=K
 ·subst e
  rw[H]at g;injection g with g
  subst g;simp only[Ui];exact Zqe _ _ _
 ·simp only[Ue e]
  rw[ZnM _ _ (λq=>e (Zwx g H q))];exact h k p g N
variable {pl:List Pl}
theorem Maps.set (h:Maps nodes pl nd) (H:pl[K]?=some p0) (n:Int):Maps nodes (pl.set K (p0.1,p0.2.1,n,p0.2.2.2.1,())) nd:=by
 intro k p g N;by_cases e:K=k
 ·subst e
  rw[UD (Ub.1 H).1]at g;injection g with g
  subst g;exact h K p0 H N
 ·rw[UL e]at g
  exact h k p g N
def addInst (d:Zb) (x:Ze) (s:List UInt8):Zb:=(KY d++[x],K1 d++[s],Ga d,())
theorem Zhs (d:Zb) (x:Ze) (s:List UInt8):places (addInst d x s)=cat YR 0 (KY d)++YR (KY d).length x++cat ZbQ 0 (Ga d):=by
 unfold places addInst;show cat YR 0 (KY d++[x])++_=_;rw[ZeT,Us];simp only[cat,Un]
variable {s:List UInt8}
theorem Zpr (H:k<YA d:=by omega):(places (addInst d x s))[k]?=(places d)[k]?:=by
 rw[Zhs,Uk,Uu H];unfold places;rw[Uu H]
variable {j:Nat}
theorem add_mid (b:j<(K7 x).length:=by omega):(places (addInst d x s))[YA d+j]?=(YR (KY d).length x)[j]?:=by
 rw[Zhs,Uk,UI (by unfold YA;omega),show YA d+j-(cat YR 0 (KY d)).length=j by unfold YA;omega,Uu (by rw[Je];exact b)]
theorem Zpq (H:YA d<=k:=by omega):(places (addInst d x s))[k+(K7 x).length]?=(places d)[k]?:=by
 have h:(cat YR 0 (KY d)).length<=k:=H;rw[Zhs,UI (by rw[Ug,Je];omega),Ug,Je];unfold places;rw[UI h];congr 1;omega
def Zt3 (nd:Nat->Int) (m:Nat) (v:Int) (k:Nat):Int:=if k<m then nd k else if k=m then v else if k=m+1 then 0 else nd (k-2)
theorem Maps.add (h:Maps nodes (places d) nd) (b:(K7 x).length=2) (l:(KY d).length<=1048576) (v:Int) :
  Maps (Zoq Key (.int .i64) nodes (((KY d).length:Int),0,()) v) (places (addInst d x s)) (Zt3 nd (YA d) v):=by
 intro k p H N;have O:∀(c:Nat),(places d)[c]?=some p->ZkI Key (.int .i64) (Zoq Key (.int .i64) nodes (((KY d).length:Int),0,()) v) (Zww p)=ZkI Key (.int .i64) nodes (Zww p):=by
  intro c C;refine ZnM _ _ (λq=>?_);unfold Zww at q;injection q with Q _
  rcases V5 C with⟨i,j,y,n,e,_,_,rfl⟩|⟨j,m,_,_,rfl⟩
  ·have:=(Ub.1 e).1
   simp only[Ze7]at Q;omega
  ·simp only at Q
   omega
 unfold Zt3;by_cases K:k<YA d
 ·rw[Uc K]
  rw[Zpr K]at H;rw[O k H];exact h k p H N
 ·rw[Ue K]
  by_cases f:k=YA d
  ·rw[Uc f]
   have g:=add_mid (d:=d) (x:=x) (s:=s) (j:=0);rw[Kd,<-f,H]at g;have a:(K7 x)[0]?=some (K7 x)[0]:=Ua (by omega);rw[Zhr a]at g;injection g with g
   rw[g];exact Zqe _ _ _
  ·rw[Ue f]
   by_cases R:k=YA d+1
   ·-- it drives
    exfalso;have g:=add_mid (d:=d) (x:=x) (s:=s) (j:=1);rw[<-R,H]at g;have a:(K7 x)[1]?=some (K7 x)[1]:=Ua (by omega);rw[Zhr a]at g;injection g with g
    rw[g]at N;simp only[Ze7,b,Kr]at N;exact N (by rw[QR];rfl)
   ·rw[Ue R]
    have g:=Zpq (d:=d) (x:=x) (s:=s) (k:=k-2);rw[b,show k-2+2=k by omega,H]at g;rw[O (k-2) g.symm];exact h (k-2) p g.symm N
def Qz (d:Zb):Zb:=((KY d).take ((KY d).length-1),(K1 d).take ((K1 d).length-1),Ga d,())
theorem ZuX (f:0<(KY d).length) (l:(KY d)[(KY d).length-1]?=some x):KY d=KY (Qz d)++[x]:=by
 show KY d=(KY d).take ((KY d).length-1)++[x];rw[<-Xa l,show(KY d).length-1+1=(KY d).length by omega,Uo]
theorem ZiS (f:0<(KY d).length) (l:(KY d)[(KY d).length-1]?=some x):places d=places (addInst (Qz d) x s):=by
 unfold places;show cat YR 0 (KY d)++cat ZbQ 0 (Ga d)=cat YR 0 (KY (Qz d)++[x])++cat ZbQ 0 (Ga d);rw[<-ZuX f l]
def ZsJ (nd:Nat->Int) (m:Nat) (k:Nat):Int:=if k<m then nd k else nd (k+2)
theorem Maps.cut (h:Maps nodes (places d) nd) (n:0<(KY d).length) (l:(KY d)[(KY d).length-1]?=some x) (f:(K7 x).length=2) :
  Maps nodes (places (Qz d)) (ZsJ nd (YA (Qz d))):=by
 rw[ZiS (s:=[]) n l]at h;intro k p H N;unfold ZsJ;by_cases K:k<YA (Qz d)
 ·rw[Uc K]
  exact h k p (by rw[Zpr K];exact H) N
 ·rw[Ue K]
  have g:=Zpq (d:=Qz d) (x:=x) (s:=[]) (k:=k);rw[f,H]at g;exact h (k+2) p g N
def Zch (pl:List Pl) (f:Nat->Int):Nat->Zlt
 |0=>[]
 |k+1=>match pl[k]? with
  |some p=>if p.2.2.2.1=true then Zch pl f k else Zoq Key (.int .i64) (Zch pl f k) (Zww p) (f k)
  |none=>Zch pl f k
variable {f:Nat->Int}
theorem Zor (g:pl[k]?=some p) (h:p.2.2.2.1=true):Zch pl f (k+1)=Zch pl f k:=by
 simp only[Zch,g,h,Ui]
theorem Zqj (g:pl[k]?=some p) (h:¬p.2.2.2.1=true):Zch pl f (k+1)=Zoq Key (.int .i64) (Zch pl f k) (Zww p) (f k):=by
 simp only[Zch,g,h,Uh];rfl
theorem Zko (d:Zb) (f:Nat->Int):∀(k:Nat),k<=(places d).length->∀(j:Nat) (p:Pl),j<k->(places d)[j]?=some p->p.2.2.2.1=false->ZkI Key (.int .i64) (Zch (places d) f k) (Zww p)=some (f j)
 |0,_,j,p,a,_,_=>by omega
 |k+1,c,j,p,a,g,N=>by
  have b:(places d)[k]?=some (places d)[k]:=Ua (by omega);generalize (places d)[k]=q at b;by_cases H:q.2.2.2.1=true
  ·rw[Zor b H]
   refine Zko d f k (by omega) j p ?_ g N;grind
  ·rw[Zqj b H]
   by_cases e:j=k
   ·subst e
    rw[g]at b;injection b with b
    subst b;exact Zqe _ _ _
   ·rw[ZnM _ _ (λh=>e (Zwx g b h))]
    exact Zko d f k (by omega) j p (by omega) g N
theorem ZkK (d:Zb) (f:Nat->Int):Maps (Zch (places d) f (places d).length) (places d) f:=λk p g N=>Zko d f _ (UO _) k p (Ub.1 g).1 g N
def Zqg (l:List Int) (k:Nat):Int:=(l[k]?).getD 0
variable {l:List Int} {v:Int}
theorem ZsK (h:i<l.length) (k:Nat):Zqg (l.set i v) k=if k=i then v else Zqg l k:=by
 unfold Zqg;grind
variable {m:Nat}
theorem ZBW (h:m<=l.length) (v:Int) (k:Nat):Zqg (l.take m++[v,0]++l.drop m) k=Zt3 (Zqg l) m v k:=by
 unfold Zqg Zt3;have q:(l.take m).length=m:=by grind
 by_cases d:k<m
 ·grind
 ·rw[Ue d]
  by_cases f:k=m
  ·grind
  ·rw[Ue f]
   by_cases R:k=m+1
   ·grind
   ·rw[Ue R,UI (by grind),Ug,q,Um,Uz,Kz]
    congr 2;omega
theorem ZBV (R:m+2<=l.length) (k:Nat):Zqg (l.take m++l.drop (m+2)) k=ZsJ (Zqg l) m k:=by
 unfold Zqg ZsJ;grind
theorem ZBe {b:Int} (H:a<((KY d).length:Int)):conn (addInst d x s) a b n=addInst (conn d a b n) x s:=by
 unfold conn;by_cases h:a<0
 ·rw[Uc h,Uc h];rfl
 ·rw[Ue h,Ue h]
  have t:a.toNat<(KY d).length:=by omega
  have i:=Ua t;generalize (KY d)[a.toNat]=y at i;have e:(KY (addInst d x s))[a.toNat]?=some y:=by
   show(KY d++[x])[a.toNat]?=some y;rw[Uu t];exact i
  rw[e,i];have E:List.set (KY (addInst d x s)) a.toNat (ZfS y b.toNat n)=(KY d).set a.toNat (ZfS y b.toNat n)++[x]:=by
   show List.set (KY d++[x]) a.toNat _=_;rw[List.set_append,Uc t]
  show(List.set (KY (addInst d x s)) a.toNat (ZfS y b.toNat n),_)=_;rw[E];rfl
theorem Xh {b:Int}:(KY (conn d a b n)).length=(KY d).length:=by
 unfold conn;split
 ·rfl
 ·show(match (KY d)[a.toNat]? with|some x=>(KY d).set a.toNat (ZfS x b.toNat n)|none=>KY d).length=_
  split
  ·rw[UF]
  ·rfl
theorem Qv {b:Int}:K1 (conn d a b n)=K1 d:=by
 unfold conn;split<;>rfl
theorem ZiL {b:Int}:(Ga (conn d a b n)).length=(Ga d).length:=by
 unfold conn;split
 ·show(match (Ga d)[b.toNat]? with|some x=>(Ga d).set b.toNat (setPort x n)|none=>Ga d).length=_
  split
  ·rw[UF]
  ·rfl
 ·rfl
theorem Zd6 {b:Int} {y:Ze} (H:(KY (conn d a b n))[i]?=some y):∃x,(KY d)[i]?=some x/\Gv y=Gv x/\Gq y=Gq x/\(K7 y).length=(K7 x).length/\((i:Int)≠a->y=x)/\∀m∈K7 y,m∈K7 x\/m=n:=by
 unfold conn at H;split at H
 ·exact⟨y,H,rfl,rfl,rfl,λ_=>rfl,λm R=>.inl R⟩
 ·rename_i h
  have H:(match (KY d)[a.toNat]? with|some x=>(KY d).set a.toNat (ZfS x b.toNat n)|none=>KY d)[i]?=some y:=H
  split at H
  ·rename_i x l
   rw[UN]at H;split at H
   ·rename_i e
    split at H
    ·injection H with H
     subst H;refine⟨x,by rw[<-e];exact l,rfl,rfl,UF,λq=>absurd (by omega) q,λm R=>?_⟩;rcases U2 R with R|R
     ·exact .inl R
     ·exact .inr R
    ·cases H
   ·exact⟨y,H,rfl,rfl,rfl,λ_=>rfl,λm R=>.inl R⟩
  ·exact⟨y,H,rfl,rfl,rfl,λ_=>rfl,λm R=>.inl R⟩
theorem Few.conn (h:Few d) (a b n:Int):Few (conn d a b n):=by
 refine⟨by rw[Xh];exact h.insts,by rw[ZiL];exact h.ports,λy c=>?_⟩;obtain⟨i,l⟩:=U5 c;obtain⟨x,H,_,_,q,_⟩:=Zd6 l;rw[q];exact h.nets x (Ud H)
theorem Few.add (h:Few d) (H:(KY d).length<=13) (l:(K7 x).length<=5) (s:List UInt8):Few (addInst d x s):=by
 refine⟨?_,h.ports,λy i=>?_⟩
 ·show(KY d++[x]).length<=14
  rw[Ug,Uz];omega
 ·rcases Ut.1 (show y∈KY d++[x]from i)with i|i
  ·exact h.nets y i
  ·rw[Uw]at i
   subst i;exact l
theorem Few.cut (h:Few d):Few (Qz d):=by
 refine⟨?_,h.ports,λy i=>h.nets y (KI (show y∈(KY d).take _ from i))⟩;show((KY d).take _).length<=14;rw[Uj];have:=h.insts;omega
def Zk4 (pl:List Pl) (n:Nat):Prop:=∀p∈pl,p.2.2.2.1=false->0<=p.2.2.1/\p.2.2.1<(n:Int)
variable {m:Int}
theorem Zk4.set {n:Nat} (h:Zk4 pl n) (H:0<=m) (d:m<(n:Int)):Zk4 (pl.set K (p0.1,p0.2.1,m,p0.2.2.2.1,())) n:=by
 intro p g N;rcases U2 g with g|g
 ·exact h p g N
 ·subst g;exact⟨H,d⟩
def swapped (b:Za) (i:Int) (c:Int):Za:=(K4 b,(match (KY (KX b))[i.toNat]? with
 |some x=>(KY (KX b)).set i.toNat (Gv x,c,K7 x,())
 | none=>KY (KX b),K1 (KX b),Ga (KX b),()),KZ b,())
def mvD (b:Za) (p:Pl) (n:Int):Zb:=conn (KX b) p.1 p.2.1 n
def mvN (b:Za) (k:Nat) (v:Int) (j:Nat):Int:=if j=k then v else Xv b j
def moved (b:Za) (k:Nat) (p:Pl) (n v:Int):Za:=(K4 b,mvD b p n,wired (places (mvD b p n)) (KZ b) (mvN b k v),())
abbrev Zxg:Zq:=([-1],[0],[0],[],())
def Zlc (b:Za) (e:Zg) (p:Pl):Ze:=(Gi e,Gw e,[p.2.2.1,((K1 (KX b)).length:Int)],())
def Zpx (b:Za) (e:Zg) (p:Pl):Zb:=addInst (conn (KX b) p.1 p.2.1 ((K1 (KX b)).length:Int)) (Zlc b e p) (Gi e)
def Zpy (b:Za) (k:Nat):Nat:=if k<YA (KX b)then k else k+2
def ZFf (b:Za) (k:Nat) (j:Nat):Int:=if j=Zpy b k then 0 else Zt3 (Xv b) (YA (KX b)) (Xv b k) j
def buffered (b:Za) (e:Zg) (k:Nat) (p:Pl):Za:=(K4 b,Zpx b e p,wired (places (Zpx b e p)) (KZ b++[Zxg]) (ZFf b k),())
def unD (b:Za) (p:Pl) (m:Int):Zb:=Qz (conn (KX b) p.1 p.2.1 m)
def unN (b:Za) (k:Nat):Nat->Int:=ZsJ (mvN b k (Xv b (YA (KX b)-2))) (YA (KX b)-2)
def Va (b:Za) (k:Nat) (p:Pl) (m:Int):Za:=(K4 b,unD b p m,wired (places (unD b p m)) ((KZ b).take ((KZ b).length-1)) (unN b k),())
def ZAE (b:Za) (n:Int) (w:Zq):Za:=(K4 b,KX b,(KZ b).set n.toNat w,())
variable {α:Type}
theorem Zci {l:List α} {x:α} (h:l[k]?=some x):l.set k x=l:=by
 apply Ux;grind
theorem ZcC (l:List Int) (h:l.length<=1048576:=by omega):ZG l=some l:=by
 unfold ZG;rw[Zi (by grind)];rfl
theorem Zft (l:List Int) (h:l.length<=1048576:=by omega):Y3 l=some l:=by
 unfold Y3;rw[Zi (by grind)];rfl
theorem Zfk (c:sm ZcR w):Zc8 w=some w:=by
 obtain⟨a,A,j,k⟩:=Zls c;unfold Zc8;rw[ZcC _ (Zw a),Bq,ZcC _ (Zw A),Bq,ZcC _ (Zw j),Bq,ZcC _ (Zw k),Bq]
theorem Zkx (c:sm ZcR w):Zdk w=some w:=by
 obtain⟨a,A,j,k⟩:=Zls c;unfold Zdk;rw[Zft _ (Zw a),Bq,Zft _ (Zw A),Bq,Zft _ (Zw j),Bq,Zft _ (Zw k),Bq]
theorem ZkY (d:Zb) (N:sm Y8 d):Zag d=some d:=by
 obtain⟨s,S,t⟩:=Zck N;have L:=Zw s;have j:=Zw S;have a:=Zw t;unfold Zag X4 Zau Vv;rw[Zi (by grind),Bq,Zi (by grind),Bq,Zi (by grind),Bq];simp only[Uv];refine YP (l:=KY d) (λk=>((k:Int),(KY d,(k:Int)),())) (λk x h H=>?_) ?_
 ·have J:=ZcC (K7 x) (Zw (Zlr (Zba s h)).2)
  simp only[Vk,show(k:Int)<((KY d).length:Int) by omega,Ui,Zo,h,Bq,U6,J,Zi trivial,YW (show k<=1048576 by omega),Up];rw[show List.set (KY d) k (Gv x,Gq x,K7 x,())=KY d from Zci h];rfl
 ·simp only[Vk,Uf,Uh,Zi trivial]
theorem ZhD (l:List ZB) (H:sm (.sl Zac) l):Zcu l=some l:=by
 have d:=Zw H;unfold Zcu;have:=YP (l:=l) (λk=>(l.take k,(k:Int),())) (step:=λv=>ZaF l v.1 v.2.1) (good:=l) (λk x h b=>by
  have q:sm Zac x:=Zba H h;have E:=ZcC (GO x) (Zw (t:=.int .i64) q.1);have i:=ZcC (Gt x) (Zw (t:=.int .i64) q.2.1);have e:=ZcC (Gr x) (Zw (t:=.int .i64) q.2.2.1);have a:((l.take k).length+[(GO x,Gt x,Gr x,())].length)*72<=140737488355328:=by grind
  simp only[ZaF,show(k:Int)<(l.length:Int) by omega,Ui,Zo,h,Bq,E,i,e,Zi a,YW (show k<=1048576 by omega)];rw[Xa h]) (by
  simp only[ZaF,Uf,Uh,Uo])
 simpa using this
theorem Zk0 (a:Zr) (n:sm QW a):Zaj a=some a:=by
 have c:=Zrd n;have d:=Zw c;unfold Zaj;have:=YP (l:=K9 a) (λk=>((k:Int),(K9 a).take k,())) (step:=λv=>Ql a v.1 v.2.1) (good:=a) (λk x h e=>by
  have q:sm ZcQ x:=Zba c h;have p1:sm (.sl ZmU) (K5 x):=q.2.2.1;have p:sm (.sl Zn7) (Gh x):=q.2.2.2.1;have P:sm (.sl (.int .i64)) (Gy x):=q.2.2.2.2.1;have f:=Zw p1;have m:=Zw p;have L:=Zw P;simp only[Ql,show(k:Int)<((K9 a).length:Int) by omega,Ui,Zo,h,Bq];unfold V8 V7;rw[Zi (by grind),Bq,ZcC _ L,Bq,Zi (by grind),Bq];simp only[Uv];have g:∀y:Zn,(((K9 a).take k).length+[y].length)*112<=140737488355328:=λy=>by grind
  refine YP (l:=Gh x) (λj=>((j:Int),(Gh x,(j:Int)),())) (λj y i H=>?_) ?_
  ·obtain⟨Q,b⟩:=ZCm (Zba p i)
   simp only[Vo,show(j:Int)<((Gh x).length:Int) by omega,Ui,Zo,i,Bq,U6,ZhD _ Q,ZhD _ b,Zi trivial,YW (show j<=1048576 by omega),Up];rw[show List.set (Gh x) j (Gb y,Gk y,Gp y,GE y,GF y,GM y,())=Gh x from Zci i];rfl
  ·simp only[Vo,Uf,Uh,Zi trivial,Zi (g _),YW (show k<=1048576 by omega)]
   rw[Xa h]) (by
  simp only[Ql,Uf,Uh,Uo])
 simpa using this
theorem VU (b:Za) (H:sm Yg b):Zeh b=some b:=by
 obtain ⟨U,W,X⟩:=Jb H;have d:=Zw X;unfold Zeh;rw[Zk0 _ U,Bq,ZkY _ W,Bq];have:=YP (l:=KZ b) (λk=>((k:Int),(KZ b).take k,())) (step:=λv=>ZaD b (K4 b) (KX b) v.1 v.2.1) (good:=b) (λk x h c=>by
  have a:(((KZ b).take k).length+[x].length)*96<=140737488355328:=by grind
  simp only[ZaD,show(k:Int)<((KZ b).length:Int) by omega,Ui,Zo,h,Bq,Zfk x (Zba X h),Zi a,YW (show k<=1048576 by omega)];rw[Xa h]) (by
  simp only[ZaD,Uf,Uh,Uo])
 simpa using this
theorem ZEC (g:pl[k]?=some p) (f:p.2.2.2.1=false):nth pl p.2.2.1 (k+1)=nth pl p.2.2.1 k+1:=by
 unfold nth;rw[ZcS g,ZiY rfl f,Ug,Uz]
variable {net:Int}
theorem ZDn (g:pl[k]?=some p) (h:¬(p.2.2.1=net/\p.2.2.2.1=false)):nth pl net (k+1)=nth pl net k:=by
 unfold nth;rw[ZcS g,ZiX h,Un]
def seen (pl:List Pl) (n k:Nat):List Int:=(List.range n).map (λ(v:Nat)=>((nth pl (v:Int) k:Nat):Int))
theorem Zpj {n v:Nat} (a:v<n):(seen pl n k)[v]?=some ((nth pl (v:Int) k:Nat):Int):=by
 unfold seen;grind
theorem ZAb (pl:List Pl) (n:Nat):List.replicate n (0:Int)=seen pl n 0:=by
 apply Ux;intro v;by_cases a:v<n
 ·rw[Zpj a,Kb,Uc a]
  unfold nth;simp[cat]
 ·rw[Uy (by simp;omega),Uy (by unfold seen;simp;omega)]
theorem ZCf {n:Nat} (g:pl[k]?=some p) (f:p.2.2.2.1=false) (m:0<=p.2.2.1) (d:p.2.2.1<(n:Int)):(seen pl n k).set p.2.2.1.toNat (((nth pl p.2.2.1 k+1:Nat):Int))=seen pl n (k+1):=by
 apply Ux;intro v;by_cases a:v<n
 ·rw[UN,Zpj a,Zpj a]
  split
  ·rename_i e
   rw[Uc (by unfold seen;simp;omega)];subst e;rw[show(p.2.2.1.toNat:Int)=p.2.2.1 by omega,ZEC g f]
  ·rename_i e
   rw[ZDn g (λq=>e (by have:=q.1;omega))]
 ·rw[Uy (by unfold seen;simp;omega),Uy (by unfold seen;simp;omega)]
theorem ZEM {n:Nat} (g:pl[k]?=some p) (f:p.2.2.2.1=true):seen pl n (k+1)=seen pl n k:=by
 unfold seen;apply Kw;intro v _;rw[ZDn g (λq=>by grind)]
theorem ZsN {b:Za} (h:Z4 b) (g:(places (KX b))[k]?=some p) (f:p.2.2.2.1=false) :
  ∃w,atI (KZ b) p.2.2.1=some w/\(KZ b)[p.2.2.1.toNat]?=some w/\atI (Gm w) (nth (places (KX b)) p.2.2.1 k:Int)=some (Xv b k)/\Zcq w ((sinks (KX b) p.2.2.1).length:Int):=by
 have n:=Qe h.ok.1 (Ud g);obtain⟨w,F,H,y⟩:=ZjH h n;have t:=ZzK g rfl f;have q:=y.2.2.2.1;have c:nth (places (KX b)) p.2.2.1 k<(Gm w).length:=by
  have:(sinks (KX b) p.2.2.1).length=(cat (QZ p.2.2.1) 0 (places (KX b))).length:=rfl;omega
 refine⟨w,H,F,?_,y⟩;rw[Zo];have e:Xv b k=((Gm w)[nth (places (KX b)) p.2.2.1 k]?).getD 0:=by
  unfold Xv;grind
 grind
theorem Zfp {b:Za} (h:Z4 b):Jz b=some (Zch (places (KX b)) (Xv b) (places (KX b)).length):=by
 have H:=h.ok.1.few;have a:=ZT H;have r:=h.ok.1.2.1.2.1;have Z:=h.ok.2.1;have d:(KZ b).length<=1048576:=Zw (Jb h.sm).2.2;unfold Jz;rw[Ra,Ra,Ra,Ra,ZQ _ H,Bq,Up,ZAb (places (KX b))];refine YP (l:=places (KX b)) (λk=>((k:Int),Zch (places (KX b)) (Xv b) k,seen (places (KX b)) (KZ b).length k,())) (λk p g j=>?_) ?_
 ·simp only[ZbH,show(k:Int)<((places (KX b)).length:Int) by omega,Ui,Zo,g,Bq,YW (show k<=1048576 by omega)]
  have E:GS p=p.2.2.2.1:=rfl;have i:ZL.net p=p.2.2.1:=rfl;by_cases f:p.2.2.2.1=true
  ·rw[E,Uc f,Zor g f,ZEM g f]
  ·have I:p.2.2.2.1=false:=by simpa using f
   obtain⟨w,F,e,y,c⟩:=ZsN h g I;have n:=Qe h.ok.1 (Ud g);have v:p.2.2.1<((KZ b).length:Int):=by have:=n.2;omega
   have q:atI (seen (places (KX b)) (KZ b).length k) p.2.2.1=some (nth (places (KX b)) p.2.2.1 k:Int):=by
    refine Yw n.1 ?_;rw[Zpj (by have:=n.1;omega),show(p.2.2.1.toNat:Int)=p.2.2.1 by have:=n.1;omega]
   have t:=ZzK g rfl I;have m:=Zat p.2.2.1 (places (KX b)) 0;rw[E,Ue f,i,F,Bq,q,Bq,y,Bq,YW (show nth (places (KX b)) p.2.2.1 k<=1048576 by omega),ZCf g I n.1 v,Zqj g f];rfl
 ·simp only[ZbH,Uf,Uh]
theorem Zw2 {pl:List Pl} {net:Int}:∀(n:Nat),n<=pl.length->∀(i:Nat) (x:Int),(cat (QZ net) 0 (pl.take n))[i]?=some x->
  ∃(k:Nat) (p:Pl),k<n/\pl[k]?=some p/\x=(k:Int)/\p.2.2.1=net/\p.2.2.2.1=false/\nth pl net k=i
 |0,_,i,x,h=>by simp[cat]at h
 |n+1,f,i,x,h=>by
  have g:pl[n]?=some pl[n]:=Ua (by omega);generalize pl[n]=p at g;rw[ZcS g]at h;by_cases l:i<(cat (QZ net) 0 (pl.take n)).length
  ·rw[Uu l]at h
   obtain⟨k,q,a,r⟩:=Zw2 n (by omega) i x h;exact⟨k,q,by omega,r⟩
  ·rw[UI (by omega)]at h
   by_cases s:p.2.2.1=net/\p.2.2.2.1=false
   ·rw[ZiY s.1 s.2]at h
    have m:=(Ub.1 h).1;rw[Uz]at m;rw[show i-(cat (QZ net) 0 (pl.take n)).length=0 by omega]at h;injection h with h
    exact⟨n,p,by omega,g,h.symm,s.1,s.2,by unfold nth;omega⟩
   ·rw[ZiX s]at h
    cases h
theorem Zpk {x:Int} (h:(cat (QZ net) 0 pl)[i]?=some x) :
  ∃(k:Nat) (p:Pl),pl[k]?=some p/\x=(k:Int)/\p.2.2.1=net/\p.2.2.2.1=false/\nth pl net k=i:=by
 obtain⟨k,p,_,r⟩:=Zw2 (pl:=pl) (net:=net) pl.length (UO _) i x (by rw[Uo];exact h);exact⟨k,p,r⟩
def filled (b:Za) (P:Nat->Pl->Bool):List Int:=cat (λk p=>[if P k p=true then Xv b k else 0]) 0 (places (KX b))
theorem Zdv (b:Za) (P:Nat->Pl->Bool) (k:Nat):(filled b P)[k]?=((places (KX b))[k]?).map (λp=>if P k p=true then Xv b k else 0):=by
 unfold filled;rw[Zb7,Us]
theorem Zm9 (b:Za) (P:Nat->Pl->Bool):(filled b P).length=(places (KX b)).length:=Zbo _ _
theorem Zoj {b:Za} {P Q:Nat->Pl->Bool} (h:∀(k:Nat) (p:Pl),(places (KX b))[k]?=some p->P k p=Q k p):filled b P=filled b Q:=by
 apply Ux;intro k;rw[Zdv,Zdv];cases g:(places (KX b))[k]? with
 |none=>rfl
 |some p=>simp only[UV,h k p g]
def ZB2 (v:Nat) (k:Nat) (p:Pl):Bool:=decide (p.2.2.1<(v:Int))&&!p.2.2.2.1
def pIn (b:Za) (v i:Nat) (k:Nat) (p:Pl):Bool:=!p.2.2.2.1&&(decide (p.2.2.1<(v:Int))||(decide (p.2.2.1=(v:Int))&&decide (nth (places (KX b)) (v:Int) k<i)))
def ZbX (b:Za):List Int:=filled b (λ_ _=>true)
theorem Zkn {b:Za} (H:k<(places (KX b)).length:=by omega):(ZbX b)[k]?=some (Xv b k):=by
 unfold ZbX;rw[Zdv,Ua H];rfl
theorem Zcx (b:Za):(ZbX b).length=(places (KX b)).length:=Zm9 _ _
theorem ZgT {b:Za} (h:Z4 b):ZdL b=some (ZbX b):=by
 have o:=h.ok.1.few;have L:=ZT o;have D:=h.ok.1.2.1.2.1;have Z:=h.ok.2.1;have O:(KZ b).length<=1048576:=Zw (Jb h.sm).2.2;have first:List.replicate (places (KX b)).length (0:Int)=filled b (ZB2 0):=by
  apply Ux;intro k;rw[Zdv,Kb];split
  ·rename_i s
   have g:=Ua s;rw[g];have n:=(Qe h.ok.1 (Ud g)).1;rw[UV,Ue];unfold ZB2;simp only[Ur,Ul,not_and];intro q;omega
  ·rw[Uy (by omega)];rfl
 have last:filled b (ZB2 (KZ b).length)=ZbX b:=by
  apply Ux;intro k;unfold ZbX;rw[Zdv,Zdv];cases g:(places (KX b))[k]? with
  |none=>rfl
  |some p =>
   have n:=(Qe h.ok.1 (Ud g)).2;simp only[UV,Ui];by_cases f:p.2.2.2.1=true
   ·have:Xv b k=0:=by unfold Xv;simp only[g,f,Ui]
    simp only[this,ite_self]
   ·rw[Uc]
    unfold ZB2;simp only[Ur,Ul,UU];exact⟨by omega,by simpa using f⟩
 unfold ZdL;rw[ZN _ o,Bq,Ra,Ra,Ra,Ra,Up,first];refine YP (l:=KZ b) (λv=>((v:Int),filled b (ZB2 v),())) (λv w R Q=>?_) ?_
 ·simp only[ZeK,show(v:Int)<((KZ b).length:Int) by omega,Ui,Xb _ _ o,Bq]
  have E:filled b (ZB2 v)=filled b (pIn b v 0):=Zoj λk p _=>by unfold ZB2 pIn;simp[Bool.and_comm]
  have C:filled b (pIn b v (sinks (KX b) (v:Int)).length)=filled b (ZB2 (v+1)):=Zoj λk p g=>by
   unfold ZB2 pIn;by_cases f:p.2.2.2.1=true
   ·simp[f]
   ·have I:p.2.2.2.1=false:=by simpa using f
    rw[I,Bool.not_false,Bool.true_and,Bool.and_true];by_cases a:p.2.2.1=(v:Int)
    ·have u:nth (places (KX b)) (v:Int) k<(sinks (KX b) (v:Int)).length:=ZzK g a I
     rw[UQ u,UQ a,UQ (show p.2.2.1<((v+1:Nat):Int) by omega)];simp
    ·rw[decide_eq_false a,Bool.false_and,Bool.or_false]
     exact Ks.2 (by omega)
  rw[E];refine YP (l:=sinks (KX b) (v:Int)) (λi=>((i:Int),filled b (pIn b v i),())) (λi x z P=>?_) ?_
  ·obtain⟨k,p,g,ex,n,f,H⟩:=Zpk (pl:=places (KX b)) z
   obtain⟨w',F,M,y,N⟩:=ZsN h g f;have s:=(Ub.1 g).1;have t:=Zat (v:Int) (places (KX b)) 0;have B:(sinks (KX b) (v:Int)).length<=(places (KX b)).length:=t;rw[n,H]at y;rw[n]at F;have r:(filled b (pIn b v i))[k]?=some ((filled b (pIn b v i))[k]'(by rw[Zm9];exact s)):=Ua _;simp only[ZeJ,show(i:Int)<((sinks (KX b) (v:Int)).length:Int) by omega,Ui,Zo,z,Bq,<-Zo (KZ b),F,<-Zo (Gm w'),y,YW (show i<=1048576 by omega)];subst ex;rw[Zo,r,Bq,Up];have:List.set (filled b (pIn b v i)) k (Xv b k)=filled b (pIn b v (i+1)):=by
    apply Ux;intro j;rw[UN,Zm9];split
    ·rename_i e
     subst e;rw[Zdv,g,UV,Uc];unfold pIn;rw[f,H];simp[n]
    ·rename_i e
     rw[Zdv,Zdv];cases a:(places (KX b))[j]? with
     |none=>rfl
     |some q =>
      have:pIn b v i j q=pIn b v (i+1) j q:=by
       unfold pIn;by_cases A:q.2.2.2.1=true
       ·simp[A]
       ·have m:q.2.2.2.1=false:=by simpa using A
        by_cases c:q.2.2.1=(v:Int)
        ·have K:nth (places (KX b)) (v:Int) j≠i:=by
          intro J;have d:=Zku a c m;rw[J]at d;have G:(cat (QZ (v:Int)) 0 (places (KX b)))[i]?=some (k:Int):=z;rw[G]at d;injection d with d
          omega
         rw[show decide (nth (places (KX b)) (v:Int) j<i)=decide (nth (places (KX b)) (v:Int) j<i+1)from Ks.2 (by omega)]
        ·rw[decide_eq_false c,Bool.false_and,Bool.false_and]
      rw[UV,UV,this]
   rw[this]
  ·simp only[ZeJ,Uf,Uh,YW (show v<=1048576 by omega),C]
 ·simp only[ZeK,Uf,Uh,last]
def wip (ws:List Zq) (k:Nat):List Zq:=cat (λj w=>[if j<k then Zf9 w []else w]) 0 ws
variable (ws:List Zq)
theorem Zob (k v:Nat):(wip ws k)[v]?=(ws[v]?).map (λw=>if v<k then Zf9 w []else w):=by
 unfold wip;rw[Zb7,Us]
theorem ZFc (k:Nat):(wip ws k).length=ws.length:=Zbo _ _
theorem ZC0:wip ws 0=ws:=by
 apply Ux;intro v;rw[Zob];simp
theorem ZFb (pl:List Pl) (ws:List Zq) (nd:Nat->Int):wip ws ws.length=ZhU pl ws nd 0:=by
 apply Ux;intro v;unfold ZhU;rw[Zob,ZcA];cases a:ws[v]? with
 |none=>rfl
 |some w =>
  have:=(Ub.1 a).1;simp only[UV,Uc this,Kt,cat,KV]
variable {ws:List Zq} {w:Zq}
theorem ZCZ (c:ws[k]?=some w):(wip ws k)[k]?=some w/\(wip ws k).set k (Zf9 w [])=wip ws (k+1):=by
 constructor
 ·rw[Zob,c];simp
 ·apply Ux
  intro v;rw[UN,ZFc];split
  ·rename_i e
   subst e;rw[Uc (Ub.1 c).1,Zob,c,UV,QP]
  ·rw[Zob,Zob]
   congr 1;funext w';by_cases h:v<k
   ·rw[Uc h,QP]
   ·rw[Ue h,QQ]
theorem ZhE {b:Za} (H:Few (KX b)) (R:Maps nodes (places (KX b)) nd) (n:Zk4 (places (KX b)) (KZ b).length) (o:(KZ b).length<=1048576) :
  Vj b nodes=some (K4 b,KX b,wired (places (KX b)) (KZ b) nd,()):=by
 have d:=ZT H;unfold Vj;have:=YP (l:=KZ b) (λk=>((k:Int),wip (KZ b) k,())) (step:=λv=>Jy b nodes v.1 v.2.1) (good:=(K4 b,KX b,wired (places (KX b)) (KZ b) nd,())) (λk w a t=>by
  obtain⟨A,c⟩:=ZCZ a;simp only[Jy,show(k:Int)<((KZ b).length:Int) by omega,Ui,Zo,A,Bq,YW (show k<=1048576 by omega),Up];rw[<-c];rfl) (by
  simp only[Jy,Uf,Uh,ZQ _ H,Bq,ZFb (places (KX b)) (KZ b) nd];refine YP (l:=places (KX b)) (λk=>((k:Int),ZhU (places (KX b)) (KZ b) nd k,())) (λk p g a=>?_) ?_
  ·simp only[ZbG,show(k:Int)<((places (KX b)).length:Int) by omega,Ui,Zo,g,Bq,YW (show k<=1048576 by omega)]
   have E:GS p=p.2.2.2.1:=rfl;have i:ZL.net p=p.2.2.1:=rfl;have e:ZkI Zdp (Ty.int IntKind.i64) nodes (Gn p,ZL.pin p,())=ZkI Key (.int .i64) nodes (Zww p):=rfl;by_cases f:p.2.2.2.1=true
   ·rw[E,Uc f,ZuF g f]
   ·have I:p.2.2.2.1=false:=by simpa using f
    obtain ⟨m,j⟩:=n p (Ud g) I;have h:(KZ b)[p.2.2.1.toNat]?=some ((KZ b)[p.2.2.1.toNat]'(by omega)):=Ua (by omega);obtain ⟨w1,w2⟩:=ZuG (nd:=nd) g I m h;have q:=Zat p.2.2.1 ((places (KX b)).take k) 0;rw[E,Ue f,i,Yw m w1,Bq,e,R k p g I,Zi (by
     show ((List.map _ _).length+1)*8<=_;rw[U1];rw[Uj] at q;omega),<-w2]
    rfl
  ·simp only[ZbG,Uf,Uh]
   unfold ZhU;rw[Uo])
 rw[ZC0]at this;exact this
theorem Zgq {b:Za} (g:(places (KX b))[k]?=some p) (n:Int):Zae b (p.1,p.2.1,()) n=some (K4 b,conn (KX b) p.1 p.2.1 n,KZ b,()):=by
 unfold Zae conn;rcases V5 g with⟨i,j,x,m,l,f,e,rfl⟩|⟨j,q,H,e,rfl⟩
 ·have c:¬((i:Int)<0):=by omega
  simp only[Ze7,G3,ZaL.pin,Ue c,Zo,l,Bq,Up];have h:x.2.2.1[j]?=some m:=f;rw[h];rfl
 ·have c:((-1:Int)<0):=by omega
  simp only[G3,ZaL.pin,Uc c,Zo,H,Bq,Up];rfl
theorem ZmD (f:0<(KY d).length) (h:p∈places (Qz d)):p∈places d:=by
 have l:(KY d)[(KY d).length-1]?=some (KY d)[(KY d).length-1]:=Ua (by omega);rw[ZiS (s:=[]) f l,Zhs];unfold places at h;rcases Ut.1 h with h|h
 ·exact List.mem_append_left _ (List.mem_append_left _ h)
 ·exact List.mem_append_right _ h
theorem ZjZ.sink {b:Za} (h:Z4 b) (o:ZjZ b):∃(k:Nat) (p:Pl),sinks (KX b) (((K1 (KX b)).length:Int)-1)=[(k:Int)]/\(places (KX b))[k]?=some p/\p.2.2.1=((K1 (KX b)).length:Int)-1/\p.2.2.2.1=false/\p.1≠((KY (KX b)).length:Int)-1:=by
 obtain⟨x,c,w,m,I,D,E,t,u,T,R,F,a,z,J,B,g,A,r⟩:=o
 match hs:sinks (KX b) (((K1 (KX b)).length:Int)-1),g with
 |[v],_ =>
  obtain ⟨k,p,l,e,d,f,_⟩:=Zpk (pl:=places (KX b)) (net:=((K1 (KX b)).length:Int)-1) (i:=0) (x:=v) (by
   show (sinks (KX b) (((K1 (KX b)).length:Int)-1))[0]?=some v;rw[hs];rfl)
  subst e;refine⟨k,p,rfl,l,d,f,λq=>?_⟩;rcases V5 l with⟨i,j,y,n,H,G,_,rfl⟩|⟨j,y,_,_,rfl⟩
  ·simp only[Ze7]at q d f
   have C:i=(KY (KX b)).length-1:=by omega
   rw[C,D]at H;injection H with H
   subst H;have s:=(Ub.1 G).1;rw[T]at f s;have:j=0\/j=1:=by omega
   rcases this with rfl|rfl
   ·rw[show atI (K7 x) 0=(K7 x)[0]? from rfl,G]at R
    injection R with R
    exact a (R.symm.trans d)
   ·exact absurd f (by simp only[Kr,Classical.not_not];rw[QR];rfl)
  ·simp only at q
   omega
theorem ZzD {b:Za} (h:Z4 b) (n:0<(KY (KX b)).length) (s:sinks (KX b) (((K1 (KX b)).length:Int)-1)=[(k:Int)]) (o:(places (KX b))[k]?=some p) (c:0<=m) (r:m<((K1 (KX b)).length:Int)-1) :
  Zk4 (places (unD b p m)) ((KZ b).length-1):=by
 have Z:=h.ok.2.1;have l:Zk4 (places (conn (KX b) p.1 p.2.1 m)) ((KZ b).length-1):=by
  rw[X3 o];intro q a N;obtain⟨j,H⟩:=U5 a;rw[UN]at H;split at H
  ·split at H
   ·injection H with H
    subst H;exact⟨c,by show m<_;omega⟩
   ·cases H
  ·rename_i e
   have t:=Qe h.ok.1 (Ud H);refine⟨t.1,?_⟩;by_cases f:q.2.2.1=((K1 (KX b)).length:Int)-1
   ·have g:=Zku H f N
    have i:(sinks (KX b) (((K1 (KX b)).length:Int)-1))[nth (places (KX b)) (((K1 (KX b)).length:Int)-1) j]?=some (j:Int):=g;rw[s]at i;have d:=Ud i;rw[Uw]at d;exact absurd (by omega) e
   ·have:=t.2
    omega
 intro q a N;exact l q (ZmD (by rw[Xh];exact n) a) N
theorem ZhH (n:0<(KY d).length) (l:(KY d)[(KY d).length-1]?=some x) (f:(K7 x).length=2):YA (Qz d)+2=YA d:=by
 have h:=ZuX n l;unfold YA;rw[h,ZeT,Ug];simp only[cat,Un,Je,f]
theorem ZrC (h:0<(KY d).length) (l:(KY d)[(KY d).length-1]?=some x) (f:(K7 x).length=2):ZgN d ((KY d).length-1)=YA d-2:=by
 have H:=ZhH h l f;have:ZgN d ((KY d).length-1)=YA (Qz d):=rfl;omega
theorem ZjP {b:Za} (h:Z4 b) (F:ZjZ b):∃(k:Nat) (p:Pl) (m v:Int),sinks (KX b) (((K1 (KX b)).length:Int)-1)=[(k:Int)]/\(places (KX b))[k]?=some p/\p.1≠((KY (KX b)).length:Int)-1/\
  (∀y,(KY (KX b))[(KY (KX b)).length-1]?=some y->atI (K7 y) 0=some m)/\v=Xv b (YA (KX b)-2)/\
  Zb9 b=some ((p.1,p.2.1,()),(K4 b,unD b p m,wired (places (unD b p m)) ((KZ b).take ((KZ b).length-1)) (ZsJ (λj=>if j=k then v else Xv b j) (YA (unD b p m))),())):=by
 obtain⟨k,p,A,g,a3,a1,z⟩:=F.sink h;obtain⟨x,c,w,m,K,a,hc,W,X,T,R,hl,Y,Z,hw,a4,a5,a0,V⟩:=F;have s:=h.ok.1;have f:=s.few;have a2:=ZT f;have P:=f.insts;have Q:=s.2.1.2.1;have a6:=h.ok.2.1;obtain⟨_,_,t⟩:=s.2.2.1 x (Ud a);have q:(K7 x)[0]?=some m:=R;have H:=t m (Ud q);have L:1<=(K1 (KX b)).length:=by have:=H.1;have:=H.2;omega
 have r:m<((K1 (KX b)).length:Int)-1:=by have:=H.2;omega
 have J:atI (KY (KX b)) (((KY (KX b)).length:Int)-1)=some x:=Yw (by omega) (by rw[<-a];congr 1;omega);have t1:Int.toNat (((KY (KX b)).length:Int)-1)=(KY (KX b)).length-1:=by omega
 have t2:Int.toNat (((K1 (KX b)).length:Int)-1)=(K1 (KX b)).length-1:=by omega
 have t3:Int.toNat (((KZ b).length:Int)-1)=(KZ b).length-1:=by omega
 have e:((K4 b,(List.set (KY (KX b)) ((KY (KX b)).length-1) x,(KX b).snd),b.snd.snd):Za)=b:=by rw[Zci a]
 refine⟨k,p,m,(Option.getD (ZkI Key (Ty.int IntKind.i64) (Zch (places (KX b)) (Xv b) (places (KX b)).length) ((((KY (KX b)).length:Int)-1),(0:Int),())) (0:Int)),A,g,z,λy i=>by rw[a]at i;injection i with i;rw[<-i];exact R,?_,?_⟩
 ·have E:=Zb1 a q
  rw[Kd,ZrC K a T] at E;have I:=ZkK (KX b) (Xv b) _ _ E (by
   show decide ((0:Int)=Wq (((K7 x).length:Int)-1))=false;rw[T,QR];decide)
  have S:Zww (Ze7 ((KY (KX b)).length-1) x 0 m)=((((KY (KX b)).length:Int)-1),(0:Int),()):=by
   show((((KY (KX b)).length-1:Nat):Int),(0:Int),())=_;rw[show(((KY (KX b)).length-1:Nat):Int)=((KY (KX b)).length:Int)-1 by omega]
  rw[S]at I;rw[I];rfl
 unfold Zb9;rw[Zfp h,Bq,ZQ _ f,Bq,show Xr (K1 (KX b))=some ((K1 (KX b)).length:Int) from rfl,Bq,
  YE (n:=((K1 (KX b)).length:Int)-1),Zbx _ _ f,Bq,A,show atI [(k:Int)] 0=some (k:Int)from rfl,Bq,Zo,g,Bq,
  YE (n:=((KY (KX b)).length:Int)-1),J,Bq,show x.snd.snd.fst=K7 x from rfl,R,Bq,t1,e,
  show (Gn p,ZL.pin p,())=(p.1,p.2.1,()) from rfl,Zgq g m,Bq]
 have M:KX ((K4 b,conn (KX b) p.1 p.2.1 m,KZ b,()):Za)=conn (KX b) p.1 p.2.1 m:=rfl;have O:KZ ((K4 b,conn (KX b) p.1 p.2.1 m,KZ b,()):Za)=KZ b:=rfl;have N:K4 ((K4 b,conn (KX b) p.1 p.2.1 m,KZ b,()):Za)=K4 b:=rfl;rw[M,O,N,Qv,YE (n:=((K1 (KX b)).length:Int)-1),QR (n:=((KZ b).length:Int)-1),t2,t3,
  Ra,Zi (by rw[Xh];omega),Ra,Ra,Ra,Ra]
 simp only[Int.toNat_zero,Nat.sub_zero,KE];have U:((K4 b,(List.take ((KY (KX b)).length-1) (KY (conn (KX b) p.1 p.2.1 m)),List.take ((K1 (KX b)).length-1) (K1 (KX b)),(conn (KX b) p.1 p.2.1 m).snd.snd),List.take ((KZ b).length-1) (KZ b),()):Za)
   = (K4 b,unD b p m,List.take ((KZ b).length-1) (KZ b),()):=by
  unfold unD Qz;rw[Xh,Qv]
 rw[U];have d:(KY (conn (KX b) p.1 p.2.1 m))[(KY (conn (KX b) p.1 p.2.1 m)).length-1]?=some ((KY (conn (KX b) p.1 p.2.1 m))[(KY (conn (KX b) p.1 p.2.1 m)).length-1]'(by rw[Xh];omega)):=Ua _;generalize (KY (conn (KX b) p.1 p.2.1 m))[(KY (conn (KX b) p.1 p.2.1 m)).length-1]'(by rw[Xh];omega)=x' at d;have B:(K7 x').length=2:=by
  obtain⟨y,i,_,_,D,_⟩:=Zd6 d;rw[Xh,a]at i;injection i with i
  rw[D,<-i,T]
 have G:=(((ZkK (KX b) (Xv b)).put g (Option.getD (ZkI Key (Ty.int IntKind.i64) (Zch (places (KX b)) (Xv b) (places (KX b)).length) ((((KY (KX b)).length:Int)-1),(0:Int),())) (0:Int))).set g m);rw[<-X3 g m]at G;have u:=G.cut (by rw[Xh];omega) d B;have l:(List.take ((KZ b).length-1) (KZ b)).length=(KZ b).length-1:=by rw[Uj];omega
 have:=ZhE (b:=(K4 b,unD b p m,List.take ((KZ b).length-1) (KZ b),())) (f.conn p.1 p.2.1 m).cut u (by
  show Zk4 (places (unD b p m)) (List.take ((KZ b).length-1) (KZ b)).length;rw[l];exact ZzD h K A g H.1 r) (by
  show (List.take ((KZ b).length-1) (KZ b)).length<=_;rw[l];omega)
 exact Eq.trans (US (λo=>Option.bind o λC=>some ((p.1,p.2.1,()),C)) this) rfl
theorem Zcq.put {s:Int} (h:Zcq w s) (q:ZiI l 0 (((K3 w).length:Int)-1)):Zcq (Zf9 w l) (l.length:Int) :=
 ⟨h.1,h.2.1,h.2.2.1,rfl,h.2.2.2.2.1,h.2.2.2.2.2.1,h.2.2.2.2.2.2.1,q⟩
def Fits (pl:List Pl) (ws:List Zq) (nd:Nat->Int):Prop:=∀(k:Nat) (p:Pl) (w:Zq),pl[k]?=some p->p.2.2.2.1=false->ws[p.2.2.1.toNat]?=some w->0<=nd k/\nd k<=((K3 w).length:Int)-1
theorem Ztl (c:∀(v:Nat) (w:Zq),ws[v]?=some w->∃s,Zcq w s) (H:Fits pl ws nd) :
  Zee (wired pl ws nd) (λv w=>Zcq w ((cat (QZ (v:Int)) 0 pl).length:Int)):=by
 intro v w a;rw[ZcA]at a;cases h:ws[v]? with
 |none=>grind
 |some y =>
  rw[h]at a;injection a with a
  subst a;obtain ⟨s,q⟩:=c v y h;have:=q.put (l:=(cat (QZ (v:Int)) 0 pl).map (λk=>nd k.toNat)) (λz T=>by
   obtain ⟨j,b,rfl⟩:=Kg.1 T;obtain ⟨k,p,rfl,g,d,f⟩:=Zqx b;exact H k p y g f (by rw[d];exact h))
  grind
theorem Zpd {b:Za} (h:Z4 b):Fits (places (KX b)) (KZ b) (Xv b):=by
 intro k p w g f c;obtain⟨w',_,F,e,y⟩:=ZsN h g f;rw[F]at c;injection c with c
 subst c;rw[Zo]at e;exact y.2.2.2.2.2.2.2 _ (Ud e)
theorem Fits.set (h:Fits pl ws nd) (n v:Int) (a:∀w,ws[n.toNat]?=some w->0<=v/\v<=((K3 w).length:Int)-1) :
  Fits (pl.set K (p0.1,p0.2.1,n,p0.2.2.2.1,())) ws (λj=>if j=K then v else nd j):=by
 intro k p w g f c;rw[UN]at g;split at g
 ·grind
 ·rename_i e
  show 0<=(if k=K then v else nd k)/\(if k=K then v else nd k)<=_;rw[Ue (λq=>e q.symm)];exact h k p w g f c
variable {l:List (List UInt8)}
theorem JI.snoc (h:JI l l.length) (d:Za6 s=true) (f:s ∉ l):JI (l++[s]) (l++[s]).length:=by
 intro j t H r;by_cases e:j<l.length
 ·rw[Uu e]at r
  obtain⟨a,b⟩:=h j t e r;grind
 grind
theorem JI.take (h:JI l l.length) (m:Nat):JI (l.take m) (l.take m).length:=by
 intro j t H r;rw[Uj]at H;rw[UC,QP]at r;obtain⟨a,b⟩:=h j t (by omega) r;grind
theorem Zjb (d:Zb) (a b n:Int):Vu (conn d a b n)=Vu d:=by
 unfold conn;split
 ·rfl
 ·show List.map Gv (match (KY d)[a.toNat]? with|some x=>(KY d).set a.toNat (ZfS x b.toNat n)|none=>KY d)=List.map Gv (KY d)
  split
  ·rename_i x l
   rw[List.map_set];exact Zci (by rw[UK,l];rfl)
  ·rfl
theorem ZtD (d:Zb) (a b n:Int):ZdU (conn d a b n)=ZdU d:=by
 unfold conn;split
 ·show List.map GQ (match (Ga d)[b.toNat]? with|some x=>(Ga d).set b.toNat (setPort x n)|none=>Ga d)=List.map GQ (Ga d)
  split
  ·rename_i x l
   rw[List.map_set];exact Zci (by rw[UK,l];rfl)
  ·rfl
 ·rfl
theorem ZtE {b:Int} {y:Z8} (h:(Ga (conn d a b n))[i]?=some y):∃x,(Ga d)[i]?=some x/\GQ y=GQ x/\GC y=GC x/\(GH y=GH x\/GH y=n):=by
 unfold conn at h;split at h
 ·have h:(match (Ga d)[b.toNat]? with|some x=>(Ga d).set b.toNat (setPort x n)|none=>Ga d)[i]?=some y:=h
  split at h
  ·rename_i x l
   rw[UN]at h;split at h
   ·rename_i e
    split at h
    ·injection h with h
     subst h;exact⟨x,by rw[<-e];exact l,rfl,rfl,.inr rfl⟩
    ·cases h
   grind
  grind
 grind
theorem Zmh {α:Type} {f:α->Bool} {y:α} (b:f y=false):∀{l:List α} {i:Nat} {x:α},l[i]?=some x->f x=false->(l.set i y).filter f=l.filter f
 |[],i,x,h,_=>by simp at h
 |a::l,0,x,h,H=>by
  grind
 |a::l,i+1,x,h,H=>by
  have:=Zmh b (l:=l) (i:=i) (by simpa using h) H;grind
theorem ZkG (h:0<(K7 x).length:=by omega):(K7 x)[(K7 x).length-1]?=some (Qo x):=by
 unfold Qo;grind
theorem Zq9 (h:j+1≠(K7 x).length:=by omega):Qo (ZfS x j n)=Qo x:=by
 by_cases m:0<(K7 x).length
 ·have d:=ZkG (x:=ZfS x j n) (by show 0<(List.set (K7 x) j n).length;grind)
  have f:(List.set (K7 x) j n)[(List.set (K7 x) j n).length-1]?=some (Qo (ZfS x j n)):=d;rw[UF,UN,QQ,ZkG m]at f;grind
 ·have e:K7 x=[]:=KL.1 (by omega)
  unfold Qo;show(List.set (K7 x) j n).getLastD 0=_;rw[e];rfl
theorem Zy0 (h:Few d) (b:(places d)[k]?=some p) (f:p.2.2.2.1=false) (n:Int):ZoE (conn d p.1 p.2.1 n)=ZoE d:=by
 unfold ZoE;rcases V5 b with⟨i,j,x,m,o,H,e,rfl⟩|⟨j,q,l,e,rfl⟩
 ·have t:=h.nets x (Ud o)
  have s:=(Ub.1 H).1;have g:decide ((j:Int)=Wq (((K7 x).length:Int)-1))=false:=f;rw[QR]at g;have r:¬((j:Int)=((K7 x).length:Int)-1):=of_decide_eq_false g;have c:¬((i:Int)<0):=by omega
  have E:KY (conn d (Ze7 i x j m).1 (Ze7 i x j m).2.1 n)=(KY d).set i (ZfS x j n):=by
   unfold conn;show KY (if(i:Int)<0 then _ else _)=_;rw[Ue c];show(match (KY d)[(i:Int).toNat]? with|some x=>(KY d).set (i:Int).toNat (ZfS x (j:Int).toNat n)|none=>KY d)=_
   grind
  have a:Ga (conn d (Ze7 i x j m).1 (Ze7 i x j m).2.1 n)=Ga d:=by
   unfold conn;show Ga (if(i:Int)<0 then _ else _)=_;rw[Ue c]
  rw[E,a,List.map_set,Zq9,Zci (by grind)]
 ·have g:decide (GC q=1)=false:=f
  have E:KY (conn d (-1) (j:Int) n)=KY d:=by
   unfold conn;grind
  have a:Ga (conn d (-1) (j:Int) n)=(Ga d).set j (setPort q n):=by
   unfold conn;grind
  show(KY (conn d (-1) (j:Int) n)).map Qo++((Ga (conn d (-1) (j:Int) n)).filter (λp=>decide (GC p=1))).map GH=_;rw[E,a,Zmh (by exact g) l g]
variable {a:Zr}
theorem ZuU (h:Qj a d) (F:(places d)[k]?=some p) (C:p.2.2.2.1=false) (t:ZbE d n):Qj a (conn d p.1 p.2.1 n):=by
 obtain⟨s,⟨n1,N,w,z,A,B⟩,o,v,u⟩:=h;have E:Few d:=Qj.few (a:=a) ⟨s,⟨n1,N,w,z,A,B⟩,o,v,u⟩;refine⟨s,⟨by rw[Xh];exact n1,by rw[Qv];exact N,by rw[ZiL];exact w,by rw[Zjb];exact z,by rw[Qv];exact A,by rw[ZtD];exact B⟩,λy f=>?_,λy f=>?_,?_⟩
 ·obtain⟨i,H⟩:=U5 f
  obtain⟨x,e,_,j,l,_,R⟩:=Zd6 H;obtain⟨r,⟨c,g,G⟩,I⟩:=o x (Ud e);refine⟨by rw[j];exact r,⟨c,by rw[j];exact g,by rw[l];exact G⟩,λm b=>?_⟩;unfold ZbE;rw[Qv];rcases R m b with q|q
  ·exact I m q
  ·rw[q];exact t
 ·obtain⟨i,H⟩:=U5 f
  obtain⟨x,e,_,D,R⟩:=ZtE H;obtain⟨r,g⟩:=v x (Ud e);refine⟨by rw[D];exact r,?_⟩;unfold ZbE;rw[Qv];rcases R with q|q
  ·rw[q];exact g
  ·rw[q];exact t
 ·unfold ZiJ
  rw[Qv,Zy0 E F C];exact u
theorem Zwc (h:Qj a d):∀v∈ZoE d,ZbE d v:=by
 have f:=h.few;intro v H;unfold ZoE at H;rcases Ut.1 H with H|H
 ·obtain⟨x,l,rfl⟩:=Kg.1 H
  have:=f.nets x l;exact((h.2.2.1 x l).last h.1 (by omega)).2
 ·obtain⟨q,b,rfl⟩:=Kg.1 H
  exact(h.2.2.2.1 q (KH.1 b).1).2
theorem ZnR:ZiJ d<->∀v:Nat,v<(K1 d).length->(ZoE d).countP (λx=>decide (x=(v:Int)))=1:=by
 unfold ZiJ;constructor
 ·intro h v a
  have:=h _ (Ud (Zja (s:=ZoE d) a));omega
 ·intro h x l
  obtain⟨j,b⟩:=U5 l;have t:=(Ub.1 b).1;rw[ZkD]at t;rw[Zja t]at b;grind
variable {l:List Int}
theorem ZuW (h:∀x∈l,x≠v):l.countP (λx=>decide (x=v))=0:=by
 grind
variable {c:Int}
theorem ZFy (h:Qj a d) {cell:Zn} (q:Za6 s=true) (k:s ∉ Vu d) (u:s ∉ K1 d) (o:(KY d).length<=13) (w:(K1 d).length<=29)
  (H:0<=c) (b:c<=((K9 a).length:Int)-1) (z:(K9 a)[c.toNat]?=some cell) (F:(K5 cell).length=2) (T:ZbE d m) :
  Qj a (addInst d (s,c,[m,((K1 d).length:Int)],()) s):=by
 have C:=Zwc h;obtain⟨B,⟨n1,U,N,L,M,O⟩,A,G,D⟩:=h;have E:KY (addInst d (s,c,[m,((K1 d).length:Int)],()) s)=KY d++[(s,c,[m,((K1 d).length:Int)],())]:=rfl;have g:K1 (addInst d (s,c,[m,((K1 d).length:Int)],()) s)=K1 d++[s]:=rfl;have j:Ga (addInst d (s,c,[m,((K1 d).length:Int)],()) s)=Ga d:=rfl;have t:∀n,ZbE d n->ZbE (addInst d (s,c,[m,((K1 d).length:Int)],()) s) n:=λn f=>by
  unfold ZbE at *;grind
 refine⟨B,⟨by grind,by grind,N,?_,by rw[g];exact M.snoc q u,O⟩,λy i=>?_,λy i=>?_,?_⟩
 ·have:Vu (addInst d (s,c,[m,((K1 d).length:Int)],()) s)=Vu d++[s]:=by
   unfold Vu;grind
  rw[this];exact L.snoc q k
 ·rw[E]at i
  rcases Ut.1 i with i|i
  ·obtain⟨r,R,P⟩:=A y i
   exact⟨r,R,λn f=>t n (P n f)⟩
  ·rw[Uw]at i
   subst i;refine⟨⟨H,b⟩,⟨cell,z,by rw[F];rfl⟩,λn f=>?_⟩;have f:n∈[m,((K1 d).length:Int)]:=f;rcases UB.1 f with f|f
   ·grind
   ·rw[Uw]at f
    subst f;unfold ZbE;grind
 ·obtain⟨r,R⟩:=G y i
  exact⟨r,t _ R⟩
 ·rw[ZnR]at D ⊢
  intro v I;rw[g,Ug,Uz]at I;have e:ZoE (addInst d (s,c,[m,((K1 d).length:Int)],()) s)=(KY d).map Qo++[((K1 d).length:Int)]++((Ga d).filter (λp=>decide (GC p=1))).map GH:=by
   unfold ZoE;rw[E,j,U8];rfl
  have Q:ZoE d=(KY d).map Qo++((Ga d).filter (λp=>decide (GC p=1))).map GH:=rfl;rw[e,Kp,Kp,List.countP_singleton];by_cases J:v<(K1 d).length
  ·grind
  ·have S:=ZuW (l:=ZoE d) (v:=(v:Int)) (λx K=>by have:=(C x K).2;omega)
   grind
theorem ZEe (a:Few d) (c:p∈places d) (H:p.2.2.2.1=true):p.2.2.1∈ZoE d:=by
 obtain⟨k,b⟩:=U5 c;unfold ZoE;rcases V5 b with⟨i,j,x,m,l,f,e,rfl⟩|⟨j,q,s,e,rfl⟩
 ·have r:=a.nets x (Ud l)
  have o:=(Ub.1 f).1;have g:decide ((j:Int)=Wq (((K7 x).length:Int)-1))=true:=H;rw[QR]at g;have n:(j:Int)=((K7 x).length:Int)-1:=of_decide_eq_true g;refine List.mem_append_left _ (Kg.2 ⟨x,Ud l,?_⟩);have h:=ZkG (x:=x);rw[show(K7 x).length-1=j by omega,f]at h;injection h with h
  exact h.symm
 grind
theorem ZFR (h:Qj a d) (l:0<(KY d).length) (q:(KY d)[(KY d).length-1]?=some x) (A:Qo x=((K1 d).length:Int)-1)
  (D:∀p∈places d,p.2.2.2.1=false->p.2.2.1≠((K1 d).length:Int)-1):Qj a (Qz d):=by
 have C:=Zwc h;have u:=h.few;have t:=ZuX l q;obtain⟨z,⟨n1,U,N,G,J,M⟩,w,B,o⟩:=h;have I:1<=(K1 d).length:=by
  have:=C (Qo x) (List.mem_append_left _ (Kg.2 ⟨x,Ud q,rfl⟩));unfold ZbE at this;omega
 have g:(K1 (Qz d)).length=(K1 d).length-1:=by
  show(List.take ((K1 d).length-1) (K1 d)).length=_;grind
 have Q:ZoE d=(KY (Qz d)).map Qo++[Qo x]++((Ga d).filter (λp=>decide (GC p=1))).map GH:=by
  unfold ZoE;grind
 have P:ZoE (Qz d)=(KY (Qz d)).map Qo++((Ga d).filter (λp=>decide (GC p=1))).map GH:=rfl;have K:∀v:Int,(ZoE d).countP (λy=>decide (y=v))=(ZoE (Qz d)).countP (λy=>decide (y=v))+if Qo x=v then 1 else 0:=λv=>by
  grind
 rw[ZnR]at o;have none:∀p∈places (Qz d),p.2.2.1≠((K1 d).length:Int)-1:=by
  intro p m e;cases f:p.2.2.2.1 with
  |false=>exact D p (ZmD l m) f e
  |true =>
   have T:=ZEe u.cut m f;have s:=o ((K1 d).length-1) (by omega);rw[K,QP]at s;grind
 have c:∀n,ZbE d n->n≠((K1 d).length:Int)-1->ZbE (Qz d) n:=λn S f=>by
  unfold ZbE at *;rw[g];omega
 have E:∀i y,(KY (Qz d))[i]?=some y->(KY d)[i]?=some y:=λi y H=>by
  rw[t,Uu (Ub.1 H).1];exact H
 refine⟨z,⟨by grind,by rw[g];omega,N,?_,J.take _,M⟩,λy H=>?_,λy H=>?_,?_⟩
 ·have:Vu (Qz d)=(Vu d).take ((KY d).length-1):=by
   unfold Vu;show List.map Gv (List.take _ (KY d))=_;rw[List.map_take]
  rw[this];exact G.take _
 ·obtain⟨i,L⟩:=U5 H
  obtain⟨r,R,O⟩:=w y (Ud (E i y L));refine⟨r,R,λn b=>c n (O n b) ?_⟩;obtain⟨j,k⟩:=U5 b;exact none _ (Ud (Zb1 L k))
 ·obtain⟨r,R⟩:=B y H
  obtain⟨j,k⟩:=U5 H;exact⟨r,c _ R (none _ (Ud (ZsV (d:=Qz d) k)))⟩
 ·rw[ZnR]
  intro v F;rw[g]at F;have:=o v (by omega);rw[K,QQ]at this;exact this
theorem Zqz (h:l.length<=1048576):sm (.sl (.int .i64)) l:=⟨by omega,λ_ _=>trivial⟩
theorem ZqA (d:sm .str s) (f:l.length<=1048576):sm Js (s,c,l,()):=⟨d,trivial,Zqz f,trivial⟩
theorem ZiZ {a b c d:List Int} (h:a.length<=1048576) (f:b.length<=1048576) (g:c.length<=1048576) (i:d.length<=1048576):sm ZcR (a,b,c,d,()):=⟨Zqz h,Zqz f,Zqz g,Zqz i,trivial⟩
theorem Zgb {a:List Ze} {b:List (List UInt8)} {c:List Z8} (d:sm (.sl Js) a) (f:sm (.sl .str) b) (g:sm (.sl Zo6) c):sm Y8 (a,b,c,()):=⟨d,f,g,trivial⟩
theorem Ze0 {b:Zb} {c:List Zq} (d:sm QW a) (f:sm Y8 b) (g:sm (.sl ZcR) c):sm Yg (a,b,c,()):=⟨d,f,g,trivial⟩
theorem ZvG (h:sm Y8 d) (a b n:Int):sm Y8 (conn d a b n):=by
 obtain⟨k,m,o⟩:=Zck h;have e:conn d a b n=(KY (conn d a b n),K1 (conn d a b n),Ga (conn d a b n),()):=rfl;rw[e];refine Zgb ⟨by rw[Xh];exact k.1,λy j=>?_⟩ (by rw[Qv];exact o) ⟨by rw[ZiL];exact m.1,λy j=>?_⟩
 ·obtain⟨i,H⟩:=U5 j
  obtain⟨x,g,f,_,q,_⟩:=Zd6 H;obtain⟨S,p⟩:=Zlr (Zba k g);have t:=Zw p;exact ZqA (s:=Gv y) (c:=Gq y) (l:=K7 y) (by rw[f];exact S) (by rw[q];exact t)
 ·obtain⟨i,H⟩:=U5 j
  obtain⟨x,g,f,_⟩:=ZtE H;have S:=ZDs (Zba m g);have:sm .str (GQ y):=by rw[f];exact S
  exact⟨this,trivial,trivial,trivial⟩
theorem ZGf (h:sm Y8 d) (a:(KY d).length<=100) (n:(K1 d).length<=100) (l:sm Js x) (q:sm .str s):sm Y8 (addInst d x s):=by
 obtain⟨H,f,g⟩:=Zck h;refine Zgb ⟨by grind,λy i=>?_⟩ ⟨by grind,λy i=>?_⟩ f
 ·rcases Ut.1 i with i|i
  ·exact H.2 y i
  grind
 ·rcases Ut.1 i with i|i
  ·exact g.2 y i
  grind
theorem ZvH {t:Ty} {l:List t.den} (h:sm (.sl t) l) (m:Nat):sm (.sl t) (l.take m):=by
 have:=h.1;exact⟨by grind,λx H=>h.2 x (KI H)⟩
theorem ZGg (h:sm Y8 d):sm Y8 (Qz d):=by
 obtain⟨H,f,g⟩:=Zck h;exact Zgb (ZvH H _) (ZvH g _) f
theorem Zs7 (h:sm (.sl ZcR) ws) (g:pl.length<=1048576:=by omega):sm (.sl ZcR) (wired pl ws nd):=by
 have d:=h.1;refine⟨by rw[ZgL];exact d,λy i=>?_⟩;obtain⟨v,a⟩:=U5 i;rw[ZcA]at a;cases l:ws[v]? with
 |none=>grind
 |some w =>
  rw[l]at a;injection a with a
  subst a;obtain⟨A,b,j,k⟩:=Zls (Zba h l);have:=Zat (v:Int) pl 0;exact ZiZ (Zw A) (Zw b) (Zw j) (by grind)
theorem ZBT {b:Za} (h:Z4 b) (g:(places (KX b))[k]?=some p) (f:p.2.2.2.1=false) (H:ZbE (KX b) n) (a:∀w,(KZ b)[n.toNat]?=some w->0<=v/\v<=((K3 w).length:Int)-1):Z4 (moved b k p n v):=by
 have i:places (mvD b p n)=(places (KX b)).set k (p.1,p.2.1,n,p.2.2.2.1,()):=X3 g n;obtain⟨U,W,X⟩:=Jb h.sm;have d:Qj (K4 b) (mvD b p n):=ZuU h.ok.1 g f H;refine⟨⟨d,?_,?_⟩,?_⟩
 ·show(wired (places (mvD b p n)) (KZ b) (mvN b k v)).length=(K1 (conn (KX b) p.1 p.2.1 n)).length
  rw[ZgL,Qv];exact h.ok.2.1
 ·exact Ztl (λv w c=>⟨_,h.ok.2.2 v w c⟩) (by rw[i];exact(Zpd h).set n v a)
 ·have q:=ZT d.few
  exact Ze0 U (ZvG W _ _ _) (Zs7 X)
theorem Zys {c c2:Zn} (d:sm ZcQ c) (f:sm ZcQ c2) (h:Zbg c c2=some true):(K5 c2).length=(K5 c).length:=by
 unfold Zbg at h;grind
theorem ZiG (l:(KY d)[i]?=some x) (c:Int):places ((KY d).set i (Gv x,c,K7 x,()),K1 d,Ga d,())=places d:=by
 show cat YR 0 ((KY d).set i (Gv x,c,K7 x,()))++cat ZbQ 0 (Ga d)=_;unfold places;congr 1;have t:=(Ub.1 l).1;have E:=Zhx YR l;have J:((KY d).set i (Gv x,c,K7 x,()))[i]?=some (Gv x,c,K7 x,()):=UD t;have e:=Zhx YR J;rw[E,e,List.take_set_of_le (UO _),List.drop_set_of_lt (by omega)];rfl
theorem Zx1 {b:Za} (h:Z4 b) {i:Int} (F:0<=i) (l:(KY (KX b))[i.toNat]?=some x) {c1 c2:Zn} (f:(K9 (K4 b))[(Gq x).toNat]?=some c1) (z:(K9 (K4 b))[c.toNat]?=some c2)
  (q:0<=c/\c<=((K9 (K4 b)).length:Int)-1) (n:(K5 c2).length=(K5 c1).length):Z4 (swapped b i c):=by
 obtain⟨U,W,X⟩:=Jb h.sm;obtain⟨s,S,E⟩:=Zck W;obtain⟨⟨g,⟨n1,N,u,v,A,B⟩,a,p,o⟩,Z,t⟩:=h.ok;have e:swapped b i c=(K4 b,((KY (KX b)).set i.toNat (Gv x,c,K7 x,()),K1 (KX b),Ga (KX b),()),KZ b,()):=by
  unfold swapped;rw[l]
 have j:=ZiG l c;rw[e];have m:∀y∈(KY (KX b)).set i.toNat (Gv x,c,K7 x,()),y∈KY (KX b)\/y=(Gv x,c,K7 x,()):=λy H=>U2 H;refine⟨⟨⟨g,⟨by grind,N,u,?_,A,B⟩,λy H=>?_,p,?_⟩,Z,?_⟩,?_⟩
 ·have:Vu ((KY (KX b)).set i.toNat (Gv x,c,K7 x,()),K1 (KX b),Ga (KX b),())=Vu (KX b):=by
   show List.map Gv (List.set _ _ _)=_;rw[List.map_set];exact Zci (by grind)
  exact this▸v
 ·rcases m y H with H|H
  ·exact a y H
  ·subst H
   obtain⟨G,⟨L,r,R⟩,D⟩:=a x (Ud l);have r:(K9 (K4 b))[(Gq x).toNat]?=some L:=r;rw[f]at r;injection r with r
   subst r;exact⟨q,⟨c2,z,by rw[n];exact R⟩,D⟩
 ·unfold ZiJ
  have:ZoE ((KY (KX b)).set i.toNat (Gv x,c,K7 x,()),K1 (KX b),Ga (KX b),())=ZoE (KX b):=by
   unfold ZoE;congr 1;show List.map Qo (List.set _ _ _)=_;rw[List.map_set];exact Zci (by rw[UK,l];rfl)
  rw[this];exact o
 ·intro k w d
  have:=t k w d;unfold sinks at *;grind
 ·refine Ze0 U (Zgb ⟨by grind,λy H=>?_⟩ E S) X
  rcases m y H with H|H
  ·exact s.2 y H
  ·subst H
   obtain⟨Q,C⟩:=Zlr (Zba s l);exact ZqA Q (Zw C)
theorem ZAF {b:Za} (h:Z4 b) (f:ZbE (KX b) n) (c:Zcq w ((sinks (KX b) n).length:Int)) (q:sm ZcR w):Z4 (ZAE b n w):=by
 obtain⟨U,W,X⟩:=Jb h.sm;obtain⟨d,Z,F⟩:=h.ok;refine⟨⟨d,by show(List.set _ _ _).length=_;rw[UF];exact Z,?_⟩,Ze0 U W ⟨by rw[UF];exact X.1,λy i=>?_⟩⟩
 ·intro k y H
  have H:((KZ b).set n.toNat w)[k]?=some y:=H;rw[UN]at H;split at H
  ·rename_i e
   split at H
   ·injection H with H
    subst H;rw[<-e];show Zcq w ((sinks (KX b) (n.toNat:Int)).length:Int);rw[show(n.toNat:Int)=n by have:=f.1;omega];exact c
   ·cases H
  ·exact F k y H
 ·rcases U2 i with i|i
  ·exact X.2 y i
  ·rw[i];exact q
theorem ZfV {b:Za} (h:Z4 b) {q:Pl} (g:(places (KX b))[k]?=some p):(places (addInst (KX b) (Zlc b e q) (Gi e)))[Zpy b k]?=some p:=by
 unfold Zpy;by_cases H:k<YA (KX b)
 ·rw[Uc H,Zpr H];exact g
 ·rw[Ue H]
  have:=Zpq (d:=KX b) (x:=Zlc b e q) (s:=Gi e) (k:=k);rw[show(K7 (Zlc b e q)).length=2 from rfl]at this;rw[this];exact g
theorem ZB4 (g:(places d)[k]?=some p) (h:p.1<((KY d).length:Int)\/True):p.1<((KY d).length:Int):=by
 rcases V5 g with⟨i,j,x,m,l,f,e,rfl⟩|⟨j,q,b,e,rfl⟩
 ·have:=(Ub.1 l).1
  show(i:Int)<_;omega
 grind
theorem Zhv {b:Za} (g:(places (KX b))[k]?=some p):Zpx b e p=conn (addInst (KX b) (Zlc b e p) (Gi e)) p.1 p.2.1 ((K1 (KX b)).length:Int) :=
 (ZBe (ZB4 g (.inr trivial))).symm
theorem ZDU:Zcq Zxg 0:=by
 refine⟨⟨by decide,by decide⟩,rfl,rfl,rfl,λk x H=>?_,?_,?_,?_⟩
 ·match k,H with
  |0,H =>
   injection H with H
   exact⟨λ_=>⟨H.symm,rfl⟩,λh=>by omega⟩
  |k+1,H=>cases H
 ·intro x l
  grind
 ·intro x l
  grind
 ·intro x l
  cases l
theorem ZBs {b:Za} (h:Z4 b) (l:(places (KX b))[k]?=some p) (r:p.2.2.2.1=false) :
  Fits (places (addInst (KX b) (Zlc b e p) (Gi e))) (KZ b++[Zxg]) (Zt3 (Xv b) (YA (KX b)) (Xv b k)):=by
 have u:=h.ok.1.few;have H:=Zpd h;have a:∀(m:Int) (w:Zq),ZbE (KX b) m->(KZ b++[Zxg])[m.toNat]?=some w->(KZ b)[m.toNat]?=some w:=λm w t c=>by
  rw[Uu (by rw[h.ok.2.1];unfold ZbE at t;omega)]at c;exact c
 intro j q w f N c;unfold Zt3;have K:YA (KX b)<=YA (KX b):=UO _;by_cases c1:j<YA (KX b)
 ·rw[Uc c1]
  rw[Zpr c1]at f;exact H j q w f N (a _ _ (Qe h.ok.1 (Ud f)) c)
 ·rw[Ue c1]
  by_cases c2:j=YA (KX b)
  ·rw[Uc c2]
   have:=add_mid (d:=KX b) (x:=Zlc b e p) (s:=Gi e) (j:=0) (by show 0<2;omega);rw[Kd,<-c2,f]at this;have E:q=Ze7 (KY (KX b)).length (Zlc b e p) 0 p.2.2.1:=by
    have g:=Zhr (i:=(KY (KX b)).length) (x:=Zlc b e p) (j:=0) (n:=p.2.2.1) rfl;grind
   have o:q.2.2.1=p.2.2.1:=by rw[E];rfl
   rw[o]at c;exact H k p w l r (a _ _ (Qe h.ok.1 (Ud l)) c)
  ·rw[Ue c2]
   by_cases R:j=YA (KX b)+1
   ·exfalso
    have:=add_mid (d:=KX b) (x:=Zlc b e p) (s:=Gi e) (j:=1) (by show 1<2;omega);rw[<-R,f]at this;have g:=Zhr (i:=(KY (KX b)).length) (x:=Zlc b e p) (j:=1) (n:=((K1 (KX b)).length:Int)) rfl;rw[<-this]at g;injection g with g
    rw[g]at N;revert N;show ¬(decide ((1:Int)=Wq ((2:Int)-1))=false);rw[QR];simp
   ·rw[Ue R]
    have:=Zpq (d:=KX b) (x:=Zlc b e p) (s:=Gi e) (k:=j-2);rw[show(K7 (Zlc b e p)).length=2 from rfl,show j-2+2=j by omega,f]at this;exact H (j-2) q w this.symm N (a _ _ (Qe h.ok.1 (Ud this.symm)) c)
theorem Zrz {p:α->Bool} {l:List α} (h:Zao p l<0):∀x∈l,p x=false:=by
 intro x H;cases g:p x with
 |false=>rfl
 |true =>
  have:=Vi.2 (KN.2 ⟨x,H,g⟩);omega
theorem Zlu {b:Za} (h:JV b e) (f:K2 e=2) (m:sm .str (Gi e)) (g:ZbC b e p):Z4 (buffered b e (K8 e).toNat p):=by
 have j:=h.blk;obtain⟨U,W,X⟩:=Jb j.sm;obtain⟨L,D⟩:=h.lim f;obtain⟨P,c,C,N,u,F,s,z,M,n⟩:=h.poss.2.1 f;have:P=p:=by
  have:=C.2;rw[g.2]at this;grind
 subst this;obtain⟨_,r⟩:=h.range.1 (.inr f);have a:(K9 (K4 b))[(Gw e).toNat]?=some c:=by
  have:=u;unfold atI at this;grind
 have o:Qj (K4 b) (addInst (KX b) (Zlc b e P) (Gi e)):=by
  refine ZFy j.ok.1 z (λR=>?_) (λR=>?_) L D r.1 r.2 a s (Qe j.ok.1 g.mem)
  ·obtain⟨x,B,E⟩:=Kg.1 R
   have:=Zrz M x B;simp[E]at this
  ·have:=Zrz n _ R
   simp at this
 have t:ZbE (addInst (KX b) (Zlc b e P) (Gi e)) ((K1 (KX b)).length:Int):=by
  unfold ZbE;show 0<=_/\_<=((K1 (KX b)++[Gi e]).length:Int)-1;grind
 have k:=ZfV (e:=e) (q:=P) j g.2;have d:Qj (K4 b) (Zpx b e P):=by
  rw[Zhv g.2];exact ZuU o k N t
 have G:=ZT d.few;have Z:=j.ok.2.1;have l:places (Zpx b e P)=(places (addInst (KX b) (Zlc b e P) (Gi e))).set (Zpy b (K8 e).toNat) (P.1,P.2.1,((K1 (KX b)).length:Int),P.2.2.2.1,()):=by
  rw[Zhv g.2];exact X3 k _
 refine⟨⟨d,?_,?_⟩,?_⟩
 ·show(wired (places (Zpx b e P)) (KZ b++[Zxg]) (ZFf b (K8 e).toNat)).length=(K1 (conn (KX b) P.1 P.2.1 _)++[Gi e]).length
  rw[ZgL,Ug,Ug,Qv,Z];rfl
 ·refine Ztl (pl:=places (Zpx b e P)) (λv w H=>?_) ?_
  ·by_cases A:v<(KZ b).length
   ·rw[Uu A]at H
    exact⟨_,j.ok.2.2 v w H⟩
   ·rw[UI (by omega)]at H
    have:=Ud H;rw[Uw]at this;rw[this];exact⟨_,ZDU⟩
  ·rw[l]
   refine(ZBs j g.2 N).set _ 0 (λw H=>?_);rw[Up,<-Z,UI (UO _),Nat.sub_self]at H;grind
 ·refine Ze0 U ?_ (Zs7 ⟨?_,λy i=>?_⟩)
  ·exact ZGf (ZvG W _ _ _) (by rw[Xh];omega) (by rw[Qv];omega) (ZqA m (by show 2<=_;omega)) m
  ·grind
  ·rcases Ut.1 i with i|i
   ·exact X.2 y i
   ·rw[Uw]at i
    rw[i];exact ZiZ (by decide) (by decide) (by decide) (by decide)
theorem Fits.cut (h:Fits (places d) ws nd) (n:0<(KY d).length) (l:(KY d)[(KY d).length-1]?=some x) (f:(K7 x).length=2) (m:Nat) :
  Fits (places (Qz d)) (ws.take m) (ZsJ nd (YA (Qz d))):=by
 intro k p w g N H;rw[UC]at H;split at H
 ·unfold ZsJ
  have a:=ZiS (s:=[]) n l;by_cases c:k<YA (Qz d)
  ·rw[Uc c]
   exact h k p w (by rw[a,Zpr c];exact g) N H
  ·rw[Ue c]
   have:=Zpq (d:=Qz d) (x:=x) (s:=[]) (k:=k);rw[f]at this;exact h (k+2) p w (by grind) N H
 ·cases H
theorem ZcH (d:Zb):(places d).length=YA d+(Ga d).length:=by
 unfold places YA;rw[Ug,Zua]
theorem ZiP (g:(places d)[k]?=some p) (n:Int):YA (conn d p.1 p.2.1 n)=YA d:=by
 have h:=ZcH d;have f:=ZcH (conn d p.1 p.2.1 n);rw[X3 g,UF,ZiL]at f;omega
theorem ZmS {b:Za} (h:Z4 b) (I:ZjZ b) (hs:sinks (KX b) (((K1 (KX b)).length:Int)-1)=[(k:Int)]) (g:(places (KX b))[k]?=some p) (a7:p.1≠((KY (KX b)).length:Int)-1)
  (hm:∀x,(KY (KX b))[(KY (KX b)).length-1]?=some x->atI (K7 x) 0=some m):Z4 (Va b k p m):=by
 obtain⟨U,W,X⟩:=Jb h.sm;obtain⟨k',p',b0,C,a9,u,N⟩:=I.sink h;have Q:k=k':=by
  grind
 subst Q;rw[g]at C;injection C with C
 subst C;obtain⟨x,c,w,M,L,l,hc,a1,a2,T,r,hl,a4,a5,d,b4,b5,a6,V⟩:=I;have R:M=m:=by
  grind
 subst R;have G:=h.ok.1;have Z:=h.ok.2.1;have a:(K7 x)[0]?=some M:=r;have a3:(K7 x)[1]?=some (((K1 (KX b)).length:Int)-1):=hl;have t:=(G.2.2.1 x (Ud l)).2.2 M (Ud a);have A:Qo x=((K1 (KX b)).length:Int)-1:=by
  have:=ZkG (x:=x);grind
 have S:Qj (K4 b) (conn (KX b) p.1 p.2.1 M):=ZuU G g u t;have H:0<(KY (conn (KX b) p.1 p.2.1 M)).length:=by rw[Xh];exact L
 have J:(KY (conn (KX b) p.1 p.2.1 M))[(KY (conn (KX b) p.1 p.2.1 M)).length-1]?=some x:=by
  have D:(KY (conn (KX b) p.1 p.2.1 M))[(KY (conn (KX b) p.1 p.2.1 M)).length-1]?=some ((KY (conn (KX b) p.1 p.2.1 M))[(KY (conn (KX b) p.1 p.2.1 M)).length-1]'(by omega)):=Ua _;generalize (KY (conn (KX b) p.1 p.2.1 M))[(KY (conn (KX b) p.1 p.2.1 M)).length-1]'(by omega)=y at D;obtain⟨x',O,_,_,_,he,_⟩:=Zd6 D;rw[Xh,l]at O;injection O with O
  rw[D,O,he (by rw[Xh];omega)]
 have z:∀q∈places (conn (KX b) p.1 p.2.1 M),q.2.2.2.1=false->q.2.2.1≠((K1 (conn (KX b) p.1 p.2.1 M)).length:Int)-1:=by
  intro q P Y e;rw[Qv]at e;rw[X3 g]at P;obtain⟨j,o⟩:=U5 P;rw[UN]at o;split at o
  ·grind
  ·rename_i a0
   have n:=Zku o e Y;have F:(sinks (KX b) (((K1 (KX b)).length:Int)-1))[nth (places (KX b)) (((K1 (KX b)).length:Int)-1) j]?=some (j:Int):=n;rw[hs]at F;have f:=Ud F;rw[Uw]at f;grind
 have K:Qj (K4 b) (unD b p M):=ZFR S H J (by rw[Qv];exact A) z;have s:YA (unD b p M)=YA (KX b)-2:=by
  have E:=ZhH H J T;have i:=ZiP g M;unfold unD;omega
 have a8:=ZT K.few;refine⟨⟨K,?_,?_⟩,?_⟩
 ·show(wired (places (unD b p M)) ((KZ b).take ((KZ b).length-1)) (unN b k)).length=((K1 (conn (KX b) p.1 p.2.1 M)).take ((K1 (conn (KX b) p.1 p.2.1 M)).length-1)).length
  rw[ZgL,Uj,Uj,Qv,Z]
 ·refine Ztl (pl:=places (unD b p M)) (λv w d=>?_) ?_
  ·rw[UC]at d
   split at d
   ·exact⟨_,h.ok.2.2 v w d⟩
   ·cases d
  ·have E:Fits (places (conn (KX b) p.1 p.2.1 M)) (KZ b) (mvN b k (Xv b (YA (KX b)-2))):=by
    rw[X3 g];refine(Zpd h).set M _ (λw' B=>?_);have f:=Zb1 l a;rw[Kd,ZrC L l T]at f;refine Zpd h _ _ w' f ?_ B;show decide ((0:Int)=Wq (((K7 x).length:Int)-1))=false;rw[T,QR];decide
   have i:=E.cut H J T ((KZ b).length-1);have n:YA (Qz (conn (KX b) p.1 p.2.1 M))=YA (KX b)-2:=s;rw[n]at i;exact i
 ·exact Ze0 U (ZGg (ZvG W _ _ _)) (Zs7 (ZvH X _))
theorem Zo4 (t:ZB) (r:sm Zac t):Zjx t=some t:=by
 have E:=Zft (GO t) (Zw (t:=.int .i64) r.1);have i:=Zft (Gt t) (Zw (t:=.int .i64) r.2.1);have k:=Zft (Gr t) (Zw (t:=.int .i64) r.2.2.1);unfold Zjx;rw[E,i,k];rfl
theorem Zi1 (l:List ZB) (q:sm (.sl Zac) l):ZbT l=some l:=by
 have d:=Zw q;unfold ZbT;have:=YP (l:=l) (λk=>(l.take k,(k:Int),())) (step:=λv=>J4 l v.1 v.2.1) (good:=l) (λk x h H=>by
  have a:((l.take k).length+[x].length)*72<=140737488355328:=by rw[Uj,Uz];omega
  simp only[J4,show(k:Int)<(l.length:Int) by omega,Ui,Zo,h,Bq,Zo4 x (Zba q h),Zi a,YW (show k<=1048576 by omega)];rw[Xa h]) (by
  simp only[J4,Uf,Uh,Uo])
 simpa using this
theorem ZqH (c:Zn) (q:sm ZcQ c):Zjz c=some c:=by
 have p1:sm (.sl ZmU) (K5 c):=q.2.2.1;have p:sm (.sl Zn7) (Gh c):=q.2.2.2.1;have P:sm (.sl (.int .i64)) (Gy c):=q.2.2.2.2.1;have d:=Zw p1;have j:=Zw p;have L:=Zw P;unfold Zjz;rw[Zi (by rw[Uq];omega),Zft _ L,Bq];have:=YP (l:=Gh c) (λk=>((k:Int),(Gh c).take k,())) (step:=λv=>ZdG c (Gy c) v.1 v.2.1) (good:=c) (λk x h H=>by
  obtain⟨Q,b⟩:=ZCm (Zba p h);have a:∀y:ZH,(((Gh c).take k).length+[y].length)*80<=140737488355328:=λy=>by rw[Uj,Uz];omega
  simp only[ZdG,show(k:Int)<((Gh c).length:Int) by omega,Ui,Zo,h,Bq,Zi1 _ Q,Zi1 _ b,Zi (a _),YW (show k<=1048576 by omega)];rw[Xa h]) (by
  simp only[ZdG,Uf,Uh,Uo];rfl)
 simpa using this
theorem ZmN (a:Zr) (n:sm QW a):ZcZ a=some a:=by
 have q:=Zrd n;have d:=Zw q;unfold ZcZ;have:=YP (l:=K9 a) (λk=>((k:Int),(K9 a).take k,())) (step:=λv=>JE a v.1 v.2.1) (good:=a) (λk x h H=>by
  have g:(((K9 a).take k).length+[x].length)*112<=140737488355328:=by rw[Uj,Uz];omega
  simp only[JE,show(k:Int)<((K9 a).length:Int) by omega,Ui,Zo,h,Bq,ZqH x (Zba q h),Zi g,YW (show k<=1048576 by omega)];rw[Xa h]) (by
  simp only[JE,Uf,Uh,Uo])
 simpa using this
theorem Zn6 (d:Zb) (N:sm Y8 d):ZjB d=some d:=by
 obtain ⟨s,S,t⟩:=Zck N;have L:=Zw s;have j:=Zw S;have b:=Zw t;unfold ZjB;rw[Zi (by rw[Uq];omega),Zi (by rw[Uq];omega)];have:=YP (l:=KY d) (λk=>((k:Int),(KY d).take k,())) (step:=λv=>ZdI d v.1 v.2.1) (good:=d) (λk x h H=>by
  have J:=Zft (K7 x) (Zw (Zlr (Zba s h)).2);have a:∀y:Ze,(((KY d).take k).length+[y].length)*48<=140737488355328:=λy=>by rw[Uj,Uz];omega
  simp only[ZdI,show(k:Int)<((KY d).length:Int) by omega,Ui,Zo,h,Bq,J,Zi (a _),YW (show k<=1048576 by omega)];rw[Xa h]) (by
  simp only[ZdI,Uf,Uh,Uo];rfl)
 simpa using this
theorem ZqI (b:Za) (H:sm Yg b):ZhP b=some b:=by
 obtain ⟨U,W,X⟩:=Jb H;have d:=Zw X;unfold ZhP;rw[ZmN _ U,Bq,Zn6 _ W,Bq];have:=YP (l:=KZ b) (λk=>((k:Int),(KZ b).take k,())) (step:=λv=>ZdJ b (K4 b) (KX b) v.1 v.2.1) (good:=b) (λk x h c=>by
  have a:(((KZ b).take k).length+[x].length)*96<=140737488355328:=by rw[Uj,Uz];omega
  simp only[ZdJ,show(k:Int)<((KZ b).length:Int) by omega,Ui,Zo,h,Bq,Zkx x (Zba X h),Zi a,YW (show k<=1048576 by omega)];rw[Xa h]) (by
  simp only[ZdJ,Uf,Uh,Uo])
 simpa using this
theorem ZhN (g:(places d)[k]?=some p) (n:Int):ZbU d p n=some (conn d p.1 p.2.1 n):=by
 unfold ZbU conn;rcases V5 g with⟨i,j,x,m,l,f,e,rfl⟩|⟨j,q,b,e,rfl⟩
 ·have c:¬((i:Int)<0):=by omega
  simp only[Ze7,GI,ZC.pin,Ue c,Zo,l,Bq,Up];have h:x.2.2.1[j]?=some m:=f;rw[h];rfl
 ·have c:((-1:Int)<0):=by omega
  simp only[GI,ZC.pin,Uc c,Zo,b,Bq,Up];rfl
def ZAN (pl:List Pl) (ws:List Zq) (nd:Nat->Int) (k:Nat):List Zq:=cat (λv w=>[if v<k then Zf9 w ((cat (QZ (v:Int)) 0 pl).map (λk=>nd k.toNat))else w]) 0 ws
variable (pl:List Pl) (ws:List Zq) (nd:Nat->Int)
theorem ZkT (k v:Nat):(ZAN pl ws nd k)[v]?=(ws[v]?).map (λw=>if v<k then Zf9 w ((cat (QZ (v:Int)) 0 pl).map (λk=>nd k.toNat))else w):=by
 unfold ZAN;rw[Zb7,Us]
theorem Ztm (k:Nat):(ZAN pl ws nd k).length=ws.length:=Zbo _ _
theorem ZAP:ZAN pl ws nd 0=ws:=by
 apply Ux;intro v;rw[ZkT];simp
theorem ZC2:ZAN pl ws nd ws.length=wired pl ws nd:=by
 apply Ux;intro v;rw[ZkT,ZcA];cases a:ws[v]? with
 |none=>rfl
 |some w =>
  have:=(Ub.1 a).1;simp only[UV,Uc this]
theorem ZAO {pl:List Pl} {ws:List Zq} {nd:Nat->Int} (c:ws[k]?=some w):(ZAN pl ws nd k)[k]?=some w/\(ZAN pl ws nd k).set k (Zf9 w ((cat (QZ (k:Int)) 0 pl).map (λk=>nd k.toNat)))=ZAN pl ws nd (k+1):=by
 constructor
 ·rw[ZkT,c];simp
 ·apply Ux
  intro v;rw[UN,Ztm];split
  ·rename_i e
   subst e;rw[Uc (Ub.1 c).1,ZkT,c,UV,QP]
  ·rw[ZkT,ZkT]
   congr 1;funext w';by_cases h:v<k
   ·rw[Uc h,QP]
   ·rw[Ue h,QQ]
theorem ZiE {b:Za} {nodes:List Int} (f:Few (KX b)) (r:nodes.length=(places (KX b)).length) (u:(KZ b).length<=1048576) :
  Jg b nodes=some (K4 b,KX b,wired (places (KX b)) (KZ b) (Zqg nodes),()):=by
 have e:=ZT f;unfold Jg;have:=YP (l:=KZ b) (λk=>((k:Int),ZAN (places (KX b)) (KZ b) (Zqg nodes) k,())) (step:=λv=>ZbA b nodes v.1 v.2.1) (good:=(K4 b,KX b,wired (places (KX b)) (KZ b) (Zqg nodes),())) (λk w c t=>by
  obtain⟨a,A⟩:=ZAO (nd:=Zqg nodes) (pl:=places (KX b)) c;have m:(sinks (KX b) (k:Int)).length<=(places (KX b)).length:=Zat (k:Int) (places (KX b)) 0;simp only[ZbA];rw[Uc (show(k:Int)<((ZAN (places (KX b)) (KZ b) (Zqg nodes) k).length:Int) by rw[Ztm];omega),Xb _ _ f,Bq];refine YP (l:=sinks (KX b) (k:Int)) (λi=>(((sinks (KX b) (k:Int)).take i).map (λx=>Zqg nodes x.toNat),(i:Int),())) (λi x h o=>?_) ?_
  ·obtain⟨j,p,d,ex,s,n,H⟩:=Zpk (pl:=places (KX b)) h
   have q:=(Ub.1 d).1;have G:nodes[j]?=some (Zqg nodes j):=by
    unfold Zqg;rw[Ua (by omega)];rfl
   simp only[Zd3,show(i:Int)<((sinks (KX b) (k:Int)).length:Int) by omega,Ui,Zo,h,Bq];have g:=Xa h;subst ex;rw[Zo,G,Bq,Zi (by rw[U1,Uj,Uz];omega),YW (show i<=1048576 by omega),g,U8];rfl
  ·simp only[Zd3,Uf,Uh,Zo,a,Bq,YW (show k<=1048576 by omega),Up,Uo]
   rw[<-A];rfl) (by
  simp only[ZbA];rw[Ue (show ¬((KZ b).length:Int)<((ZAN (places (KX b)) (KZ b) (Zqg nodes) (KZ b).length).length:Int) by rw[Ztm];omega),ZC2])
 rw[ZAP]at this;exact this
theorem ZnN (b:Za):Zqg (ZbX b)=Xv b:=by
 funext k;unfold Zqg;by_cases H:k<(places (KX b)).length
 ·rw[Zkn H];rfl
 ·rw[Uy (by rw[Zcx];omega)]
  unfold Xv;rw[Uy (by omega)];rfl
theorem Zom {b:Za} (h:Z4 b) (g:(places (KX b))[k]?=some p) (a:p.2.2.2.1=false) (f:ZbE (KX b) n) :
  Vj (K4 b,conn (KX b) p.1 p.2.1 n,KZ b,()) (Zoq Key (.int .i64) (Zch (places (KX b)) (Xv b) (places (KX b)).length) (Zww p) v)=some (moved b k p n v):=by
 have F:=((ZkK (KX b) (Xv b)).put g v).set g n;rw[<-X3 g n]at F;have d:(KZ b).length<=1048576:=Zw (Jb h.sm).2.2;have K:n<((KZ b).length:Int):=by rw[h.ok.2.1];have:=f.2;omega
 exact ZhE (b:=(K4 b,conn (KX b) p.1 p.2.1 n,KZ b,())) (h.ok.1.few.conn p.1 p.2.1 n) F (by
  show Zk4 (places (conn (KX b) p.1 p.2.1 n)) (KZ b).length;rw[X3 g];refine Zk4.set (λq H N=>?_) f.1 K;have:=Qe h.ok.1 H;rw[h.ok.2.1];exact ⟨this.1,by have:=this.2;omega⟩) d
theorem Zur {b:Za} (h:Z4 b) (g:(places (KX b))[k]?=some p) (n v:Int) :
  Jg (K4 b,conn (KX b) p.1 p.2.1 n,KZ b,()) ((ZbX b).set k v)=some (moved b k p n v):=by
 have H:=(Ub.1 g).1;have f:=h.ok.1.few.conn p.1 p.2.1 n;have e:=ZiE (b:=(K4 b,conn (KX b) p.1 p.2.1 n,KZ b,())) (nodes:=(ZbX b).set k v) f (by
  show ((ZbX b).set k v).length=(places (conn (KX b) p.1 p.2.1 n)).length;rw[UF,Zcx,X3 g,UF]) (Zw (Jb h.sm).2.2)
 rw[e];have i:Zqg ((ZbX b).set k v)=mvN b k v:=by
  funext j;rw[ZsK (by rw[Zcx];exact H),ZnN];rfl
 rw[i];rfl
theorem ZzC {b:Za} (h:Z4 b):Zk4 (places (KX b)) (KZ b).length:=λq H _=>by
 have:=Qe h.ok.1 H;rw[h.ok.2.1];exact⟨this.1,by have:=this.2;omega⟩
theorem Zx7 {w':Zq} (h:∀l,Zf9 w l=Zf9 w' l):wired pl (ws++[w]) nd=wired pl (ws++[w']) nd:=by
 unfold wired;rw[ZeT,ZeT];simp only[cat,h]
theorem Zlj {b:Za} (h:JV b e) (K:K2 e=2) (m:sm .str (Gi e)) (g:ZbC b e p) (N:p.2.2.2.1=false):Zdx b e=some (buffered b e (K8 e).toNat p):=by
 have j:=h.blk;have f:=j.ok.1.few;have y:=f.insts;have i:=j.ok.1.2.1.2.1;have Z:=j.ok.2.1;have r:=Zlu h K m g;have k:=ZfV (e:=e) (q:=p) j g.2;have H:=ZkK (KX b) (Xv b);have v:ZkI Key (.int .i64) (Zch (places (KX b)) (Xv b) (places (KX b)).length) (p.1,p.2.1,())=some (Xv b (K8 e).toNat):=H _ p g.2 N;have a:=H.add (x:=Zlc b e p) (s:=Gi e) rfl (by omega) (Xv b (K8 e).toNat);have u:=(a.put k 0).set k ((K1 (KX b)).length:Int);rw[<-X3 k,<-Zhv g.2] at u;have n:=ZzC r;have l:(KZ (buffered b e (K8 e).toNat p)).length=(KZ b++[Zxg]).length:=ZgL _ _ _;rw[l] at n;have z:=ZhE (b:=(K4 b,Zpx b e p,KZ b++[Zxg],())) r.ok.1.few u n (by
  show (KZ b++[Zxg]).length<=_;rw[Ug,Uz];omega)
 have c:=Zgq (b:=(K4 b,addInst (KX b) (Zlc b e p) (Gi e),KZ b++[Zxg],())) k ((K1 (KX b)).length:Int);have d:conn (KX ((K4 b,addInst (KX b) (Zlc b e p) (Gi e),KZ b++[Zxg],()):Za)) p.1 p.2.1 ((K1 (KX b)).length:Int)=Zpx b e p:=(Zhv g.2).symm;rw[d] at c;unfold Zdx;rw[Zfp j,Bq,ZQ _ f,Bq,g.at,Bq,
  show Xr (K1 (KX b))=some ((K1 (KX b)).length:Int)from rfl,Bq,
  show QS (KY (KX b))=some ((KY (KX b)).length:Int)from rfl,Bq,
  Zi (by rw[Uz];omega),Zi (by rw[Uz];omega),Zi (by rw[Uz];omega)]
 refine Eq.trans (US (λo=>Option.bind o _) c) ?_;rw[Bq];have E:Option.getD (ZkI Zdp (Ty.int IntKind.i64) (Zch (places (KX b)) (Xv b) (places (KX b)).length) (Gn p,ZL.pin p,())) (0:Int)=Xv b (K8 e).toNat:=by
  have:ZkI Zdp (Ty.int IntKind.i64) (Zch (places (KX b)) (Xv b) (places (KX b)).length) (Gn p,ZL.pin p,())=some (Xv b (K8 e).toNat):=v;rw[this];rfl
 rw[E];refine Eq.trans (US (λo=>Option.bind o _) z) ?_;rfl
theorem Zzz {b:Za} (H:k<(places (KX b)).length) (v:Int) (a:v=Xv b k) :
  Zqg (((ZbX b).take (YA (KX b))++[v,0]++(ZbX b).drop (YA (KX b))).set (Zpy b k) 0)=ZFf b k:=by
 have f:=ZcH (KX b);have R:YA (KX b)<=(ZbX b).length:=by rw[Zcx];omega
 funext j;rw[ZsK (by
  rw[Ug,Ug,Uj,UX,Zcx];unfold Zpy;simp only[Um,Uq];split<;>omega),ZBW R,ZnN,a]
 rfl
theorem Zrf {b:Za} (h:JV b e) (K:K2 e=2) (I:sm .str (Gi e)) (g:ZbC b e p) (P:p.2.2.2.1=false):ZcI b e=some (buffered b e (K8 e).toNat p):=by
 have j:=h.blk;have r:=j.ok.1.few;have G:=ZT r;have z:=r.insts;have N:=r.ports;have B:=j.ok.1.2.1.2.1;have Z:=j.ok.2.1;have v:=(Ub.1 g.2).1;have J:=g.1;have A:=ZcH (KX b);have C:=Zlu h K I g;have F:Wq (((ZbX b).length:Int)-((Ga (KX b)).length:Int))=(YA (KX b):Int):=by
  rw[Zcx,QR];omega
 have V:List.take ((ZbX b).length-YA (KX b)) (List.drop (YA (KX b)) (ZbX b))=List.drop (YA (KX b)) (ZbX b):=KC (by rw[UX];exact UO _);have a:Zab 1 0=some (([-1],[0],[0],[0],()):Zq):=by
  unfold Zab;rw[Ra,Ra,Ra,Ra];rfl
 have M:((ZbX b).take (YA (KX b))++[Xv b (K8 e).toNat,0]++(ZbX b).drop (YA (KX b))).length=(places (KX b)).length+2:=by
  rw[Ug,Ug,Uj,UX,Zcx];simp only[Um,Uq];omega
 have D:Zpy b (K8 e).toNat<(places (KX b)).length+2:=by
  unfold Zpy;split<;>omega
 have m:(places (Zpx b e p)).length=(places (KX b)).length+2:=by
  have L:=ZcH (Zpx b e p);rw[Zhv g.2,X3 (ZfV (e:=e) (q:=p) j g.2),UF];rw[Zhs,Ug,Ug,Je,Zua,A];unfold YA Zlc;show _+2+_=_;omega
 have t:=ZiE (b:=(K4 b,Zpx b e p,KZ b++[([-1],[0],[0],[0],())],())) (nodes:=((ZbX b).take (YA (KX b))++[Xv b (K8 e).toNat,0]++(ZbX b).drop (YA (KX b))).set (Zpy b (K8 e).toNat) 0) C.ok.1.few (by
  show(List.set _ _ _).length=(places (Zpx b e p)).length;rw[UF,M,m]) (by
  show (KZ b++[([-1],[0],[0],[0],())]).length<=_;rw[Ug,Uz];omega)
 rw[Zzz v _ rfl]at t;have c:Jg (K4 b,Zpx b e p,KZ b++[([-1],[0],[0],[0],())],()) ((((ZbX b).take (YA (KX b))++[Xv b (K8 e).toNat,0]++(ZbX b).drop (YA (KX b)))).set (Zpy b (K8 e).toNat) 0)=some (buffered b e (K8 e).toNat p):=by
  rw[t];show some (K4 b,Zpx b e p,wired (places (Zpx b e p)) (KZ b++[([-1],[0],[0],[0],())]) (ZFf b (K8 e).toNat),())=_;rw[Zx7 _ _ _ (w:=([-1],[0],[0],[0],())) (w':=Zxg) (λl=>rfl)];rfl
 unfold ZcI;rw[ZN _ r,Bq,g.at,Bq,ZgT j,Bq,Yw g.1 (Zkn v),Bq,F];simp only[Up,Int.toNat_zero,Nat.sub_zero,KE,V];have d:(KY (conn (KX b) p.1 p.2.1 ((KZ b).length:Int))).length=(KY (KX b)).length:=Xh;have f:(K1 (conn (KX b) p.1 p.2.1 ((KZ b).length:Int))).length=(K1 (KX b)).length:=by rw[Qv]
 have k:(List.take (YA (KX b)) (ZbX b)).length=YA (KX b):=by rw[Uj,Zcx];omega
 have T:(List.drop (YA (KX b)) (ZbX b)).length=(Ga (KX b)).length:=by rw[UX,Zcx];omega
 rw[Ra,Zi (by rw[Zcx];omega),Zft _,Bq,
  Zi (by rw[k];simp only[Um,Uq];omega),Ra,Zi (by rw[Ug,k,T];simp only[Um,Uq];omega),
  ZhN g.2,Bq]
 have x:∀(i:Nat),i<(places (KX b)).length+2->∃y,((ZbX b).take (YA (KX b))++[Xv b (K8 e).toNat,0]++(ZbX b).drop (YA (KX b)))[i]?=some y:=λi E=>⟨_,Ua (by rw[M];exact E)⟩;have u:((KY (conn (KX b) p.1 p.2.1 ((KZ b).length:Int))++[(Gi e,Gw e,[ZC.net p,((KZ b).length:Int)],())],K1 (conn (KX b) p.1 p.2.1 ((KZ b).length:Int))++[Gi e],(conn (KX b) p.1 p.2.1 ((KZ b).length:Int)).snd.snd):Zb)=Zpx b e p:=by
  rw[Z];rfl
 by_cases O:YA (KX b)<=(K8 e).toNat
 ·have H:Zpy b (K8 e).toNat=(K8 e).toNat+2:=by unfold Zpy;rw[QQ]
  obtain ⟨y,s⟩:=x ((K8 e).toNat+2) (by omega);rw[QP,QR (n:=K8 e+2),show K8 e+2=(((K8 e).toNat+2:Nat):Int) by omega,Zo,s,Bq,
   Zi (by rw[d,Uz];omega),Zi (by rw[f,Uz];omega),a,Bq,Zi (by rw[Uz];omega),Up,<-H,u]
  refine Eq.trans (US (λo=>Option.bind o _) c) ?_;rfl
 ·have H:Zpy b (K8 e).toNat=(K8 e).toNat:=by unfold Zpy;rw[QP]
  obtain ⟨y,s⟩:=x (K8 e).toNat (by omega);rw[QQ,Yw g.1 s,Bq,
   Zi (by rw[d,Uz];omega),Zi (by rw[f,Uz];omega),a,Bq,Zi (by rw[Uz];omega),u]
  rw[H]at c;refine Eq.trans (US (λo=>Option.bind o _) c) ?_;rfl
theorem Zo5 {b:Za} (h:Z4 b) (I:ZjZ b) (L:sinks (KX b) (((K1 (KX b)).length:Int)-1)=[(k:Int)]) (g:(places (KX b))[k]?=some p) (C:p.1≠((KY (KX b)).length:Int)-1)
  (R:∀x,(KY (KX b))[(KY (KX b)).length-1]?=some x->atI (K7 x) 0=some m):Zgw b=some (Va b k p m):=by
 have S:=ZmS h I L g C R;obtain⟨X,x,H,T⟩:=I.two;have w:=R x H;have f:=h.ok.1.few;have Y:=ZT f;have M:=f.insts;have h8:=f.ports;have N:=h.ok.1.2.1.2.1;have a0:=h.ok.2.1;have W:=(Ub.1 g).1;have h2:=ZcH (KX b);have U:=ZhH X H T;have K:1<=(K1 (KX b)).length:=by
  have:=Qe h.ok.1 (Ud g);unfold ZbE at this;omega
 have a1:atI (KY (KX b)) (((KY (KX b)).length:Int)-1)=some x:=Yw (by omega) (by simp_all);have t1:Int.toNat (((KY (KX b)).length:Int)-1)=(KY (KX b)).length-1:=by omega
 have q:((List.set (KY (KX b)) ((KY (KX b)).length-1) x,(KX b).snd):Zb)=KX b:=by rw[Zci H]
 have c:Wq (((KZ b).length:Int)-1)=(((KZ b).length-1:Nat):Int):=by rw[QR];omega
 have d:Wq (((ZbX b).length:Int)-((Ga (KX b)).length:Int))=(YA (KX b):Int):=by rw[Zcx,QR];omega
 have e:Wq ((YA (KX b):Int)-2)=((YA (KX b)-2:Nat):Int):=by rw[QR];omega
 have n:Wq (((KY (KX b)).length:Int)-1)=(((KY (KX b)).length-1:Nat):Int):=by rw[QR];omega
 have D:Xg (KX b) (((KZ b).length-1:Nat):Int)=some [(k:Int)]:=by
  rw[Xb _ _ f,show(((KZ b).length-1:Nat):Int)=((K1 (KX b)).length:Int)-1 by omega,L]
 have E:atI (KY (KX b)) (((KY (KX b)).length-1:Nat):Int)=some x:=by grind
 have s:(List.set (ZbX b) k (Xv b (YA (KX b)-2))).length=(places (KX b)).length:=by rw[UF,Zcx]
 have V:List.take ((List.set (ZbX b) k (Xv b (YA (KX b)-2))).length-YA (KX b)) (List.drop (YA (KX b)) (List.set (ZbX b) k (Xv b (YA (KX b)-2))))=List.drop (YA (KX b)) (List.set (ZbX b) k (Xv b (YA (KX b)-2))):=KC (by grind);have r:(KY (conn (KX b) p.1 p.2.1 m)).length=(KY (KX b)).length:=Xh;have t:(K1 (conn (KX b) p.1 p.2.1 m)).length=(K1 (KX b)).length:=by rw[Qv]
 have u:(List.take (YA (KX b)-2) (List.set (ZbX b) k (Xv b (YA (KX b)-2)))).length=YA (KX b)-2:=by grind
 have v:(List.drop (YA (KX b)) (List.set (ZbX b) k (Xv b (YA (KX b)-2)))).length=(Ga (KX b)).length:=by grind
 have J:YA (unD b p m)=YA (KX b)-2:=by
  have z:0<(KY (conn (KX b) p.1 p.2.1 m)).length:=by grind
  have B:(KY (conn (KX b) p.1 p.2.1 m))[(KY (conn (KX b) p.1 p.2.1 m)).length-1]?=some ((KY (conn (KX b) p.1 p.2.1 m))[(KY (conn (KX b) p.1 p.2.1 m)).length-1]'(by omega)):=Ua _;generalize (KY (conn (KX b) p.1 p.2.1 m))[(KY (conn (KX b) p.1 p.2.1 m)).length-1]'(by omega)=x' at B;obtain⟨y,a,_,_,F,_⟩:=Zd6 B;rw[Xh,H]at a;injection a with a
  have O:=ZhH z B (by rw[F,<-a,T]);have P:=ZiP g m;unfold unD;omega
 have Z:(places (unD b p m)).length=(places (KX b)).length-2:=by
  have O:=ZcH (unD b p m);have P:(Ga (unD b p m)).length=(Ga (KX b)).length:=ZiL;omega
 have G:=ZiE (b:=(K4 b,unD b p m,(KZ b).take ((KZ b).length-1),())) (nodes:=(ZbX b |>.set k (Xv b (YA (KX b)-2))).take (YA (KX b)-2)++(ZbX b |>.set k (Xv b (YA (KX b)-2))).drop (YA (KX b))) S.ok.1.few (by
  grind) (by
  grind)
 have A:Zqg ((ZbX b |>.set k (Xv b (YA (KX b)-2))).take (YA (KX b)-2)++(ZbX b |>.set k (Xv b (YA (KX b)-2))).drop (YA (KX b)))=unN b k:=by
  funext j;have:=ZBV (l:=(ZbX b).set k (Xv b (YA (KX b)-2))) (m:=YA (KX b)-2) (by omega) j;rw[show YA (KX b)-2+2=YA (KX b) by omega]at this;rw[this];unfold unN;congr 1;funext i;rw[ZsK (by grind),ZnN];rfl
 rw[A]at G;have Q:((List.take ((KY (KX b)).length-1) (KY (conn (KX b) p.1 p.2.1 m)),List.take ((KZ b).length-1) (K1 (conn (KX b) p.1 p.2.1 m)),(conn (KX b) p.1 p.2.1 m).snd.snd):Zb)=unD b p m:=by
  unfold unD Qz;grind
 unfold Zgw;rw[ZgT h,Bq,c,D,Bq,show atI [(k:Int)] 0=some (k:Int) from rfl,Bq,d,e,Zo,Zkn,Bq,Zo,Zkn W,Bq,n,E,Bq,
  show x.snd.snd.fst=K7 x from rfl,w,Bq]
 simp only[Up,Int.toNat_zero,Nat.sub_zero,KE];rw[q,ZN _ f,Bq,Zo,g,Bq,ZhN g,Bq,Ra,Zi (by rw[s];omega),Zft _,Bq,
  Ra,Zi (by rw[s];omega),Ra,V,Zi (by rw[u,v];omega),Ra,Zi (by rw[r];omega),Ra,Zi (by rw[t];omega),Ra,Q]
 refine Eq.trans (US (λo=>Option.bind o _) G) ?_;rfl
def Lens (b:Za) (e:Zg) (r:Za):Prop:=(places (KX r)).length+(if K2 e=3 then 2 else 0)=(places (KX b)).length+(if K2 e=2 then 2 else 0)
theorem Zyp (d:Zb) (x:Ze) (s:List UInt8):(places (addInst d x s)).length=(places d).length+(K7 x).length:=by
 rw[Zhs,Ug,Ug,Je];unfold places;grind
theorem ZDV {b:Za} (h:Z4 b) (g:(places (KX b))[k]?=some p):(places (Zpx b e p)).length=(places (KX b)).length+2:=by
 rw[Zhv g,X3 (ZfV h g),UF,Zyp];rfl
theorem Zvh {b:Za} {r:Za} (f:K2 e≠2) (g:K2 e≠3) (h:(places (KX r)).length=(places (KX b)).length):Lens b e r:=by
 unfold Lens;grind
theorem Zl5 {b:Za} (h:JV b e) (W:sm Qh e):∃r,ZK e b=some r/\ZfN b e=some r/\Z4 r/\K4 r=K4 b/\Lens b e r:=by
 have j:=h.blk;have O:=j.ok.1.few;have a3:=j.ok.2.1;obtain⟨U,b2,b3⟩:=Jb j.sm;unfold ZK ZfN;rw[VU _ j.sm,Bq,ZqI _ j.sm,Bq,ZN _ O,Bq];by_cases d:K2 e=1
 ·obtain⟨p,x,c,c2,g,h0,N,G,hc,L,ha⟩:=h.poss.1 d
  obtain⟨_,M⟩:=h.range.1 (.inl d);have J:(KY (KX b))[p.1.toNat]?=some x:=by
   unfold atI at G;grind
  obtain⟨⟨a4,_⟩,_,_⟩:=j.ok.1.2.2.1 x (Ud J);have i:(K9 (K4 b))[(Gq x).toNat]?=some c:=by
   unfold atI at hc;grind
  have t:(K9 (K4 b))[(Gw e).toNat]?=some c2:=by
   unfold atI at L;grind
  have H:=Zx1 j h0 J i t M (Zys (Zba (Zrd U) i) (Zba (Zrd U) t) ha);rw[Uc d,Uc d,ZQ _ O,Bq,g.at,Bq];have Y:Gn p=p.1:=rfl;have Z:GI p=p.1:=rfl;simp only[Y,Z,G,Bq];refine⟨swapped b p.1 (Gw e),?_,?_,H,rfl,Zvh (by omega) (by omega) ?_⟩
  ·unfold swapped;rw[J]
  ·unfold swapped;rw[J]
  ·unfold swapped;rw[J];exact US List.length (ZiG J _)
 rw[Ue d,Ue d];by_cases f:K2 e=2
 ·obtain⟨p,c,g,N,_⟩:=h.poss.2.1 f
  have q:=(ZjR W).1;rw[Uc f,Uc f,Zlj h f q g N,Zrf h f q g N];exact⟨_,rfl,rfl,Zlu h f q g,rfl,by unfold Lens;rw[QQ,Uc f];exact ZDV j g.2⟩
 rw[Ue f,Ue f];by_cases R:K2 e=3
 ·have F:=h.poss.2.2.1 R
  obtain⟨k,p,m,v,q,g,A,X,hv,Q⟩:=ZjP j F;have H:=ZmS j F q g A X;rw[Uc R,Uc R,Q,Zo5 j F q g A X];obtain⟨n,x,G,T⟩:=F.two;have z:0<(KY (conn (KX b) p.1 p.2.1 m)).length:=by rw[Xh];exact n
  have B:(KY (conn (KX b) p.1 p.2.1 m))[(KY (conn (KX b) p.1 p.2.1 m)).length-1]?=some ((KY (conn (KX b) p.1 p.2.1 m))[(KY (conn (KX b) p.1 p.2.1 m)).length-1]'(by omega)):=Ua _;generalize (KY (conn (KX b) p.1 p.2.1 m))[(KY (conn (KX b) p.1 p.2.1 m)).length-1]'(by omega)=x' at B;obtain⟨y,D,_,_,E,_⟩:=Zd6 B;rw[Xh,G]at D;injection D with D
  have h5:=ZhH z B (by rw[E,<-D,T]);have h6:=ZiP g m;have u:YA (unD b p m)=YA (KX b)-2:=by unfold unD;omega
  refine⟨Va b k p m,by rw[u,hv];rfl,rfl,H,rfl,?_⟩;have V:=US List.length (ZiS (s:=[]) z B);rw[Zyp,E,<-D,T,X3 g,UF]at V;unfold Lens;rw[Uc R,QQ];exact V.symm
 rw[Ue R,Ue R];by_cases K:K2 e=4
 ·obtain⟨p,g,N,a0⟩:=h.poss.2.2.2.1 K
  obtain ⟨_,n,w,hw,P⟩:=h.range.2.1 K;have hk:=(Ub.1 g.2).1;have H:=ZBT j g.2 N n (v:=Gz e) (λw' a1=>by grind);rw[Uc K,Uc K,Zfp j,Bq,ZQ _ O,Bq,g.at,Bq,ZgT j,Bq,Yw g.1 (Zkn hk),Bq,Bq,ZhN g.2,Bq,
   show (Gn p,ZL.pin p,())=(p.1,p.2.1,()) from rfl,Zgq g.2,Bq]
  refine⟨moved b (K8 e).toNat p (Gl e) (Gz e),?_,?_,H,rfl,Zvh f R (by show(places (conn _ _ _ _)).length=_;rw[X3 g.2,UF])⟩
  ·exact US (λo=>Option.bind o λC=>some C) (Zom j g.2 N n (v:=Gz e))
  ·exact US (λo=>Option.bind o λl=>some l) (Zur j g.2 (Gl e) (Gz e))
 ·have I:K2 e=5:=by have:=h.blank;unfold Blank at this;omega
  have n:=h.range.2.2 I;obtain⟨w,a2,S,_⟩:=ZjH j n;have a:=(ZjR W).2;have H:=ZAF j n (h.poss.2.2.2.2 I) a;rw[Ue K,Ue K,Uc I,Uc I,Zfk _ a,Bq,Zkx _ a,Bq,S,Bq];exact⟨ZAE b (Gl e) (GA e),rfl,rfl,H,rfl,Zvh f R rfl⟩
theorem Zv3 {b:Za} (h:JV b e) (m:sm Qh e):∃r,ZK e b=some r/\ZfN b e=some r/\Z4 r/\K4 r=K4 b:=by
 obtain⟨r,d,f,g,i,_⟩:=Zl5 h m;grind
abbrev Zvr:Za:=((([]:List Zn),()),(([]:List Ze),([]:List (List UInt8)),([]:List Z8),()),([]:List Zq),())
theorem ZxX:sm Yg Zvr:=by
 refine Ze0 ⟨⟨by simp,λx l=>by cases l⟩,trivial⟩ (Zgb ⟨by simp,λx l=>by cases l⟩ ⟨by simp,λx l=>by cases l⟩ ⟨by simp,λx l=>by cases l⟩) ⟨by simp,λx l=>by cases l⟩
theorem ZlC (b:Za) (e:Zg) (h:sm Yg b) (m:sm Qh e):∃c,Vl b e=some c/\QU b e=some c/\(c=0->JV b e):=by
 unfold Vl;rw[Zc7 b h,Bq];by_cases j:Zis b
 ·obtain⟨c,d,f,g⟩:=Zke ⟨j,h⟩ e m
  rw[Uc (ZX j),d];exact⟨c,rfl,f,g⟩
 ·rw[Ue (λq=>j ((YL _).1 q))]
  refine⟨1,rfl,?_,λq=>by cases q⟩;unfold QU;rw[XO b h,Bq,Ue (λq=>j ((YL _).1 q))]
theorem ZvJ (b:Za) (e:Zg) (h:sm Yg b) (m:sm Qh e):∃c,QU b e=some c/\(c=0->JV b e):=by
 by_cases j:Zis b
 ·obtain⟨c,d,f,g⟩:=Zke ⟨j,h⟩ e m
  exact⟨c,f,g⟩
 ·refine⟨1,?_,λq=>by cases q⟩
  unfold QU;rw[XO b h,Bq,Ue (λq=>j ((YL _).1 q))]
theorem Zn5 {b:Za} (h:JV b e):Zgy b e=some (after b e):=by
 have j:=h.blk.ok.1;have H:=j.few;have w:=ZT H;have y:=H.insts;have A:=H.ports;have s:(Ga (KX b)).length<=(places (KX b)).length:=by unfold places;rw[Ug,Zph];omega
 unfold Zgy;rw[ZN _ H,Bq];have:=XG (l:=places (KX b)) (ρ:=List Int) (λk p=>[Zdq b e k p]) [] (step:=λv=>ZbB b e (places (KX b)) v.1 v.2.1) (good:=after b e)
  (λk p d B=>by
   have r:=Zo9 (g:=Zdq b e) ((places (KX b)).take k) 0;rw[Uj]at r;obtain⟨c,t⟩:=ZdC d;have m:∀n:Int,(([]++cat (λk p=>[Zdq b e k p]) 0 ((places (KX b)).take k)).length+[n].length)*8<=140737488355328:=λn=>by
    grind
   have E:Wq (((places (KX b)).length:Int)-((Ga (KX b)).length:Int))=((places (KX b)).length:Int)-((Ga (KX b)).length:Int):=QR;have i:Wq (((places (KX b)).length:Int)-((Ga (KX b)).length:Int)-2)=((places (KX b)).length:Int)-((Ga (KX b)).length:Int)-2:=QR;have c1:(((places (KX b)).length:Int)-((Ga (KX b)).length:Int)<=(k:Int))=(p.1<0):=propext ⟨λq=>c.2 (by omega),λq=>by grind⟩;simp only[ZbB,show(k:Int)<((places (KX b)).length:Int)from by omega,Ui,Zi (m _),YW (show k<=1048576 by omega),YE (show(-9223372036854775808:Int)<=(k:Int)+2 by omega),YE (show(-9223372036854775808:Int)<=(k:Int)-2 by omega),E,i,c1];by_cases f:K2 e=2
   ·have R:¬K2 e=3:=by omega
    by_cases Q:p.1<0
    ·rw[Zrp f Q,Uc f,Uc Q]
    ·rw[ZhZ R (λq=>Q q.2),Uc f,Ue Q,Ue R,Ue R]
   ·rw[Ue f]
    by_cases R:K2 e=3
    ·obtain⟨u,x,z,J⟩:=h.last R
     by_cases Q:p.1<0
     ·rw[Zrq R Q,Uc R,Uc Q]
     ·have o:=ZkM u z d
      rw[J]at o;have c2:(((places (KX b)).length:Int)-((Ga (KX b)).length:Int)-2<=(k:Int))=(p.1=((KY (KX b)).length:Int)-1):=propext ⟨λq=>o.2 (by omega),λq=>by have:=o.1 q;omega⟩;simp only[c2];by_cases a:p.1=((KY (KX b)).length:Int)-1
      ·rw[ZvY R Q a,Uc R,Ue Q,Uc R,Uc a]
      ·rw[Zps R Q a,Uc R,Ue Q,Uc R,Ue a]
    ·rw[ZhZ R (λq=>f q.1),Ue R,Ue R])
  (by simp only[ZbB,Uf,Uh];rfl)
 exact this
theorem Zyr (b:Za) (e:Zg):(after b e).length=(places (KX b)).length:=Zo9 _ _
theorem Ztv {b:Za} (g:(places (KX b))[k]?=some p):(after b e)[k]?=some (Zdq b e k p):=by
 unfold after;rw[Zb7,g];simp
theorem Zr2 {b:Za} {r:Za} (h:JV b e) (o:Lens b e r) (g:(places (KX b))[k]?=some p):-1<=Zdq b e k p/\Zdq b e k p<((places (KX r)).length:Int):=by
 have j:=(Ub.1 g).1;obtain⟨a,t⟩:=ZdC g;unfold Lens at o;have s:(Ga (KX b)).length<=(places (KX b)).length:=by rw[ZcH];omega
 by_cases f:K2 e=2
 ·rw[QQ,Uc f]at o
  by_cases Q:p.1<0
  ·rw[Zrp f Q];omega
  ·rw[ZhZ (by omega) (λq=>Q q.2)];omega
 ·by_cases R:K2 e=3
  ·rw[Uc R,Ue f]at o
   obtain⟨n,x,l,J⟩:=h.last R;by_cases Q:p.1<0
   ·rw[Zrq R Q]
    have:=a.1 Q;obtain⟨y,i⟩:∃y,(K7 x)[1]?=some y:=⟨_,Ua (by omega)⟩;have H:=Zb1 l i;obtain⟨c,_⟩:=ZdC H;have:¬(Ze7 ((KY (KX b)).length-1) x 1 y).1<0:=by
     show ¬(((KY (KX b)).length-1:Nat):Int)<0;omega
    grind
   ·have c:=ZkM n l g
    rw[J]at c;by_cases d:p.1=((KY (KX b)).length:Int)-1
    ·rw[ZvY R Q d];omega
    ·rw[Zps R Q d]
     grind
  ·rw[Ue R,Ue f]at o
   rw[ZhZ R (λq=>f q.1)];omega
def ZAU (n:Nat):Zf:=(List.replicate n false,List.replicate n (0,0,()),List.replicate n (0,0,()),())
theorem ZnD {b:Za} (h:Few (KX b)) (v:ZM) (a:ZM.places v=places (KX b)):VZ v=some (ZAU (2*(places (KX b)).length)):=by
 have i:=ZT h;unfold VZ YC;rw[show Y1 (ZM.places v)=some ((ZM.places v).length:Int)from rfl,Bq,Bq,a,YE (n:=2*((places (KX b)).length:Int))];rw[Ra,Ra,Ra,Ra,Ra];rw[show(2*((places (KX b)).length:Int)).toNat=2*(places (KX b)).length by omega];rfl
def Zi5 (af:List Int) (t:Zf) (k:Nat) (r:Bool) (o:Zf):Zf :=
 if(af[k/2]?).getD 0<0 then o else
  (List.set (K6 o) (2*(af[k / 2]?).getD 0+((k % 2:Nat):Int)).toNat r,List.set (Gu o) (2*(af[k / 2]?).getD 0+((k % 2:Nat):Int)).toNat (((Gu t)[k]?).getD (0,0,())),
   List.set (Gs o) (2*(af[k / 2]?).getD 0+((k % 2:Nat):Int)).toNat (((Gs t)[k]?).getD (0,0,())),())
def Zbu (af:List Int) (t:Zf) (n:Nat):Zf:=foldI (Zi5 af t) 0 (K6 t) (ZAU n)
def Zr0 (n:Nat) (o:Zf):Prop:=(K6 o).length=n/\(Gu o).length=n/\(Gs o).length=n
theorem Zn8 {af:List Int} {t:Zf} {n:Nat} {r:Bool} {o:Zf} (h:Zr0 n o):Zr0 n (Zi5 af t k r o):=by
 unfold Zi5;split
 ·exact h
 ·obtain⟨d,f,g⟩:=h
  refine⟨?_,?_,?_⟩;all_goals grind
variable (n:Nat)
theorem ZsM:Zr0 n (ZAU n):=⟨UR,UR,UR⟩
theorem ZpM {α σ:Type} {f:Nat->α->σ->σ} (I:σ->Prop) (H:∀k x s,I s->I (f k x s)):∀(l:List α) (m:Nat) (s:σ),I s->I (foldI f m l s)
 |[],_,_,h=>h
 |x::r,m,s,h=>ZpM I H r (m+1) (f m x s) (H m x s h)
theorem ZvO (af:List Int) (t:Zf) (n:Nat):Zr0 n (Zbu af t n):=ZpM (Zr0 n) (λk x s h=>Zn8 h) _ _ _ (ZsM n)
theorem ZE8 (h:k<=1048576:=by omega):Wq (Int.tdiv (k:Int) 2)=((k/2:Nat):Int):=by
 rw[U0 (by omega),QR];omega
theorem ZE9 (k:Nat):Int.tmod (k:Int) 2=((k%2:Nat):Int):=by
 grind
variable {x:Int}
theorem ZEB:x∈srt l<->x∈l:=List.mem_mergeSort
variable (l:List Int)
theorem ZAq:(srt l).length=l.length:=List.length_mergeSort _
theorem Zzy {l:List Int}:x∈Zm0 l<->x∈l:=by
 unfold Zm0 Lib.compactUpTo;rw[Kg];constructor
 ·grind
 ·intro h
  obtain⟨j,b,e⟩:=List.getElem_of_mem h;have y:∀(n j:Nat),j<=n->(b:j<l.length)->l[j]=x->∃a,a∈(List.range l.toArray.size).filter (Lib.keeps l.toArray)/\l.toArray[a]! = x:=by
   intro n;induction n with
   |zero =>
    intro j f b e;have:j=0:=by omega
    subst this;refine⟨0,KH.2 ⟨KF.2 (by simpa using b),by unfold Lib.keeps;simp⟩,?_⟩;grind
   |succ n I =>
    intro j f b e;have i:l.toArray[j]! = x:=by grind
    by_cases H:Lib.keeps l.toArray j=true
    ·grind
    ·unfold Lib.keeps at H
     grind
  exact y j j (UO _) b e
theorem ZBc:(Zm0 l).length<=l.length:=ZpB l
theorem ZlR (x:Int) (q:l.length<=1048576):Yj l x=some (decide (x∈l)):=by
 have o:Len l:=by unfold Len;omega
 unfold Yj Xz;rw[QN (l:=l) o (p:=λy=>decide (x=y)) (out:=λi=>i) (step:=λv=>Yv l x v.1)
  (λk y h=>by
   have H:=(Ub.1 h).1;simp only[Yv,show (k:Int)<(l.length:Int) from by omega,Ui,Zo,h,Bq,Ul];split<;>rfl)
  (by simp only[Yv,Uf,Uh]),Bq]
 congr 1;apply KA.2;rw[Ke,Ke,Vi];simp
def ZoA (b:Za) (e:Zg) (l:List Int):Prop :=
 (K2 e=1/\∃(p:Pl) (x:Ze),ZbC b e p/\0<=p.1/\(KY (KX b))[p.1.toNat]?=some x/\l=K7 x)\/
 (K2 e=2/\∃p:Pl,ZbC b e p/\l=[p.2.2.1,((K1 (KX b)).length:Int)])\/
 (K2 e=3/\∃(x:Ze) (y:Int),(KY (KX b))[(KY (KX b)).length-1]?=some x/\(K7 x)[0]?=some y/\l=[y])\/
 (K2 e=4/\∃p:Pl,ZbC b e p/\l=[p.2.2.1,Gl e])\/
 (K2 e=5/\l=[Gl e])
theorem ZAy {b:Za} (h:JV b e):∃l l',ZoA b e l/\Zah e b=some l'/\(∀x,x∈l'<->x∈l)/\l.length<=1048576/\l'.length<=1048576:=by
 have t:=h.blk.ok.1.few;have M:∀l:List Int,0<l.length->l.length<=1048576->∃l',((Zyd l).bind λs=>(ZjJ s).bind λc=>some c)=some l'/\(∀x,x∈l'<->x∈l)/\l'.length<=1048576:=by
  intro l m d;refine⟨Zm0 (srt l),?_,λx=>by rw[Zzy,ZEB],?_⟩
  ·unfold Zyd ZjJ
   rw[QP,Bq,Uc (by rw[ZAq];exact m)];rfl
  ·have:=ZBc (srt l)
   rw[ZAq]at this;omega
 unfold Zah;simp only[ZQ _ t,Bq];by_cases k:K2 e=1
 ·obtain⟨p,x,c,c2,g,m,N,a,_⟩:=h.poss.1 k
  have H:(KY (KX b))[p.1.toNat]?=some x:=by
   obtain⟨X,d,r⟩:=ZrM g.mem m;have:=Yw m d;rw[a]at this;injection this with this;rw[this];exact d
  have O:=t.nets x (Ud H);have I:0<(K7 x).length:=by
   obtain⟨i,j,X,n,d,r,u,C⟩|⟨j,q,d,r,u⟩:=V5 g.2
   ·have D:p.1=(i:Int):=by rw[C];rfl
    rw[D,Up]at H;rw[H]at d;injection d with d;subst d
    have:=(Ub.1 r).1;omega
   ·rw[u]at m;exact absurd (show(0:Int)<=-1 from m) (by decide)
  obtain⟨l',f,F,A⟩:=M (K7 x) I (by omega);have L:ZG (K7 x)=some (K7 x):=ZcC _;rw[Uc k,g.at,Bq,show atI (KY (KX b)) (Gn p)=some x from a,Bq,L,Bq];exact⟨_,l',.inl ⟨k,p,x,g,m,H,rfl⟩,f,F,by omega,A⟩
 rw[Ue k];by_cases K:K2 e=2
 ·obtain⟨p,c,g,N,_⟩:=h.poss.2.1 K
  obtain⟨l',f,F,A⟩:=M [p.2.2.1,((K1 (KX b)).length:Int)] (by simp) (by simp);rw[Uc K,g.at,Bq,show Xr (K1 (KX b))=some ((K1 (KX b)).length:Int)from rfl,Bq];exact⟨_,l',.inr (.inl ⟨K,p,g,rfl⟩),f,F,by simp,A⟩
 rw[Ue K];by_cases R:K2 e=3
 ·obtain⟨P,x,a,J⟩:=h.last R
  have B:=t.insts;obtain⟨y,v⟩:∃y,(K7 x)[0]?=some y:=⟨_,Ua (by omega)⟩;have E:atI (KY (KX b)) (Wq (((KY (KX b)).length:Int)-1))=some x:=by
   rw[QR];exact Yw (by omega) (by rw[show(((KY (KX b)).length:Int)-1).toNat=(KY (KX b)).length-1 by omega];exact a)
  have z:atI (K7 x) 0=some y:=Yw (by omega) v;obtain⟨l',f,F,A⟩:=M [y] (by simp) (by simp);rw[Uc R,E,Bq,z,Bq];exact⟨_,l',.inr (.inr (.inl ⟨R,x,y,a,v,rfl⟩)),f,F,by simp,A⟩
 rw[Ue R];by_cases o:K2 e=4
 ·obtain⟨p,g,N,G⟩:=h.poss.2.2.2.1 o
  obtain⟨l',f,F,A⟩:=M [p.2.2.1,Gl e] (by simp) (by simp);rw[Uc o,g.at,Bq];exact⟨_,l',.inr (.inr (.inr (.inl ⟨o,p,g,rfl⟩))),f,F,by simp,A⟩
 rw[Ue o];have w:K2 e=5:=by have:=h.blank;unfold Blank at this;omega
 obtain⟨l',f,F,A⟩:=M [Gl e] (by simp) (by simp);rw[Uc w];exact⟨_,l',.inr (.inr (.inr (.inr ⟨w,rfl⟩))),f,F,by simp,A⟩
noncomputable def Zh6 (nets:List Int) (k:Nat) (p:Pl):List Int:=if p.2.2.1∈nets then[2*(k:Int),2*(k:Int)+1]else[]
noncomputable def ZdQ (r:Za) (nets:List Int):List Int:=cat (Zh6 nets) 0 (places (KX r))
variable {nets:List Int}
theorem ZkE (h:p.2.2.1∈nets):Zh6 nets k p=[2*(k:Int),2*(k:Int)+1]:=Uc h
theorem Zm4 (h:¬p.2.2.1∈nets):Zh6 nets k p=[]:=Ue h
theorem Zxm (nets:List Int) (k:Nat) (p:Pl):(Zh6 nets k p).length<=2:=by
 unfold Zh6;split<;>simp
theorem ZEa {b r:Za} (h:JV b e) (m:sm Qh e) (F:ZK e b=some r):∃l,ZoA b e l/\Jl e b=some (ZdQ r l)/\(ZdQ r l).length<=200:=by
 obtain⟨w,a,y,R,_⟩:=Zv3 h m;rw[F]at a;injection a with a
 subst a;have f:=R.ok.1.few;have o:=ZT f;obtain⟨l,l',d,H,g,u,i⟩:=ZAy h;have L:∀k,(cat (Zh6 l) 0 ((places (KX r)).take k)).length<=2*78:=λk=>by
  refine Kl (ZaN (c:=2) (λj x _=>Zxm l j x)) ?_;rw[Uj];omega
 refine⟨l,d,?_,?_⟩
 ·unfold Jl
  rw[H,F,Bq,Bq,ZQ _ f,Bq];refine XG (l:=places (KX r)) (Zh6 l) [] (λk x t v=>?_) ?_
  ·have n:∀p q:Int,(([]++cat (Zh6 l) 0 ((places (KX r)).take k)).length+[p,q].length)*8<=140737488355328:=λp q=>by
    rw[Uv];have:=L k;simp only[Um,Uq];omega
   have s:(ZL.net x∈l')=(x.2.2.1∈l):=propext (g _);simp only[Jm,show(k:Int)<((places (KX r)).length:Int)from by omega,Ui,Zo,t,Bq,ZlR l' _ i,Ul,s,YW (show k<=1048576 by omega),YE (show(-9223372036854775808:Int)<=2*(k:Int) by omega),YE (show(-9223372036854775808:Int)<=2*(k:Int)+1 by omega)];by_cases c:x.2.2.1∈l
   ·rw[Uc c,ZkE c,Zi (n _ _)]
   ·rw[Ue c,Zm4 c,Un]
  ·simp only[Jm,Uf,Uh,Uv]
   rfl
 ·have:=L (places (KX r)).length
  rw[Uo]at this;exact Kl this (by omega)
theorem ZAI {b:Za} (h:Z4 b):wired (places (KX b)) (KZ b) (Xv b)=KZ b:=by
 have Z:=h.ok.2.1;apply Ux;intro v;rw[ZcA];cases c:(KZ b)[v]? with
 |none=>rfl
 |some w =>
  have o:=(Ub.1 c).1;obtain⟨w',F,e,y⟩:=ZjH h (n:=(v:Int)) ⟨by omega,by omega⟩;rw[Up,c]at F;injection F with F
  subst F;have q:=y.2.2.2.1;have:((cat (QZ (v:Int)) 0 (places (KX b))).map (λk=>Xv b k.toNat))=Gm w:=by
   apply Ux;intro i;rw[UK];cases l:(cat (QZ (v:Int)) 0 (places (KX b)))[i]? with
   |none =>
    have m:=List.getElem?_eq_none_iff.1 l;have f:(sinks (KX b) (v:Int)).length=(cat (QZ (v:Int)) 0 (places (KX b))).length:=rfl;grind
   |some x =>
    obtain⟨k,p,g,ex,a,f,H⟩:=Zpk l;obtain⟨w',d,A,j,_⟩:=ZsN h g f;rw[a,Up,c]at A;injection A with A
    subst A;rw[a,H,Zo]at j;grind
  rw[UV,this];rfl
theorem ZyE {b:Za} (h:Z4 b) (o:ZjZ b):Ze2 b=some true:=by
 obtain⟨x,c,w,m,D,C,q,k,l,T,R,p,e,g,B,u,A,s,y⟩:=o;have d:=h.ok.1;have i:=d.few;have j:=i.insts;have r:=d.2.1.2.1;have Z:=h.ok.2.1;obtain⟨⟨c0,c1⟩,_,t⟩:=d.2.2.1 x (Ud C);have J:atI (KY (KX b)) (((KY (KX b)).length:Int)-1)=some x:=Yw (by omega) (by simp_all);have z:atI (K9 (K4 b)) (Gq x)=some c:=Yw c0 q;have v:Wq (((KZ b).length:Int)-1)=((K1 (KX b)).length:Int)-1:=by rw[QR];omega
 have f:Jh c=some true:=by
  unfold Jh;grind
 have a:((sinks (KX b) (((K1 (KX b)).length:Int)-1)).length:Int)=1:=by omega
 have H:((K3 w).length:Int)=1:=by omega
 unfold Ze2;rw[YE (n:=((KY (KX b)).length:Int)-1),QQ,J];simp only[Bq,z,f,Ui,v,p,g,R,B,Ue e,Xb _ _ i,a,Zio,H,y,decide_true]
theorem ZB6 {b:Za} (h:JV b e) (r:sm Qh e):ZdM b e=some true:=by
 have j:=h.blk;have i:=j.ok.1;have H:=i.few;have d:=(Jb j.sm).2.1;obtain⟨J,l⟩:=ZjR r;unfold ZdM;rw[ZN _ H,Bq];by_cases k:K2 e=1
 ·obtain⟨p,x,c,c2,g,A,N,D,q,o,B⟩:=h.poss.1 k
  rw[Uc k,g.at];grind
 rw[Ue k];by_cases K:K2 e=2
 ·obtain⟨p,c,g,N,q,C,s,z,M,n⟩:=h.poss.2.1 K
  have y:(Gi e).length<=4611686018427387904:=by have:((Gi e).length:Int)<=1048576:=J;omega
  have f:Jh c=some true:=by
   unfold Jh
   simp_all
  rw[Uc K,g.at];simp only[Bq,show GT p=p.2.2.2.1 from rfl,N,q,f,ZbS _ y,z,(Zkg _ (Gi e) d).2,(ZlL _ (Gi e) d).2,Ui,Uc M,UQ n,Ka,Uh]
 rw[Ue K];by_cases R:K2 e=3
 ·rw[Uc R,ZyE j (h.poss.2.2.1 R)]
  rfl
 rw[Ue R];by_cases m:K2 e=4
 ·obtain⟨p,g,N,t⟩:=h.poss.2.2.2.1 m
  rw[Uc m,g.at];grind
 rw[Ue m];have a:K2 e=5:=by have:=h.blank;unfold Blank at this;omega
 obtain⟨w,F,u,v⟩:=ZjH j (h.range.2.2 a);rw[Xb _ _ H];simp only[Bq,ZiD _ _ l];rw[ZX (h.poss.2.2.2.2 a)]
theorem Zse {b:Za} (h:JV b e) (m:sm Qh e):Zd8 e b=some 0/\QU b e=some 0:=by
 have j:=h.blk;have Z:=j.ok.2.1;have H:QU b e=some 0:=by
  unfold QU;rw[XO b j.sm,Bq,Uc (ZX j.ok),ZjS e m,Bq,Uc (ZX h.blank),ZjT j e m,Bq,Uc (ZX h.range),ZB6 h m,Bq,Uc rfl];by_cases f:K2 e=2
  ·have:=h.lim f
   grind
  ·rw[Ue f]
 obtain⟨c,g,i,_⟩:=Zke j e m;grind
theorem Zw4:sm (.sl (.int .i64)) ([]:List Int):=⟨by simp,λ_ _=>trivial⟩
theorem ZAl:sm ZcR (([]:List Int),([]:List Int),([]:List Int),([]:List Int),()):=⟨Zw4,Zw4,Zw4,Zw4,trivial⟩
end Go.Proofs.YtcjminfjgckdlaaGreatDoor
