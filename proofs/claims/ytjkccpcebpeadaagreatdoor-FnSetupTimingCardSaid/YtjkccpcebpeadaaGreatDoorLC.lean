/-
  Plain laws: what is reached through live links, by rounds; cones.
-/
import Derived.Test.YtjkccpcebpeadaaGreatDoorLB
import Derived.Test.YtjkccpcebpeadaaGreatDoorLA
import Derived.Test.YtjkccpcebpeadaaGreatDoorM
import Derived.Test.YtjkccpcebpeadaaGreatDoorSxSort
import Derived.Test.YtjkccpcebpeadaaGreatDoorE1
namespace Go.Proofs.YtjkccpcebpeadaaGreatDoor
set_option linter.unusedVariables false
set_option linter.unusedSimpArgs false
open Go Go.Sx
def cf (l:List Bool):Nat:=l.countP (λb=>!b)
theorem Zzs:∀(l:List Bool) (i:Nat),l[i]?=some false->cf (l.set i true)+1=cf l
 |[],_,h=>by simp at h
 |b::l,0,h=>by simp at h;subst h;simp[cf]
 |b::l,i+1,h=>by
  have:=Zzs l i (by simpa using h);unfold cf at this ⊢;simp only[List.set_cons_succ,K1];omega
variable {l:List Bool}
theorem bat {i:Int} {b:Bool} (h:atI l i=some b) (k:0<=i):l[i.toNat]?=some b:=by
 unfold atI at h;rw[Uc k]at h;exact h
variable {i:Nat}
theorem ZCv (a:Nat) (h:l[a]?=some true):(l.set i true)[a]?=some true:=by
 rw[UX];split
 ·have:=(Ub.1 h).1
  rw[QP]
 ·exact h
def Closed (L:List Zn) (lv:List Bool) (k:Nat) (s:List Bool):Prop:=∀(j:Nat) (l:Zn),j<k->L[j]?=some l->lv[j]?=some true->s[(Gc l).toNat]?=some true->s[(Gf l).toNat]?=some true
structure ZC2 (N:Nat) (L:List Zn) (lv:List Bool) (S:Int->Prop) (k:Nat) (s0:List Bool) (ch:Bool) (s:List Bool):Prop where
 len:s.length=N
 snd:∀a:Nat,s[a]?=some true->Rch L lv S (a:Int)
 up:∀a:Nat,s0[a]?=some true->s[a]?=some true
 still:ch=false->s=s0/\Closed L lv k s0
 less:cf s+(if ch=true then 1 else 0)<=cf s0
variable {N:Nat} {L:List Zn} {lv:List Bool}
theorem round_eq {S:Int->Prop} (R:InN N L) (T:L.length<=6000) (Y:lv.length=L.length) {s0:List Bool} (O:s0.length=N) (Q:∀a:Nat,s0[a]?=some true->Rch L lv S (a:Int)) :
  ∃C s,Zt (λv=>XQ L lv true v.1 v.2.1 v.2.2.1) (false,(0:Int),s0,())=some (.inl (C,s,()))/\ZC2 N L lv S L.length s0 C s:=by
 obtain⟨r,P,C,s,rfl,x⟩:=Zdq (l:=L) (ρ:=(Bool×List Bool×Unit)⊕List Bool) (step:=λv=>XQ L lv true v.1 v.2.1 v.2.2.1) (v:=(false,(0:Int),s0,()))
  (λk v=>v.2.1=(k:Int)/\ZC2 N L lv S k s0 v.1 v.2.2.1) (λr=>∃C s,r=.inl (C,s,())/\ZC2 N L lv S L.length s0 C s)
  ⟨rfl,O,Q,λa h=>h,λ_=>⟨rfl,λj l W=>by omega⟩,by simp⟩
  (by
   rintro k l ⟨C,i,s,⟨⟩⟩ y hk ⟨q,c⟩;simp only at q c;subst q;have f:=R l (Ud y);have I:=c.len;have t:lv[k]?=some lv[k]:=Ua (by omega);generalize lv[k]=B at t;obtain ⟨X,u,_⟩:=Zfk (l:=s) f.1.1;obtain ⟨J,w,_⟩:=Zfk (l:=s) f.2.1;have g:=bat u f.1.1;have m:=bat w f.2.1;simp only[XQ,show (k:Int)<(L.length:Int) from by omega,Uk,Zv,y,t,u,w,Bq];have U:(B=true->X=true->J=true)->ZC2 N L lv S (k+1) s0 C s:=λE=>⟨c.len,c.snd,c.up,λD=>by
    obtain⟨e1,M⟩:=c.still D;refine⟨e1,λj Z W d b H=>?_⟩;by_cases F:j=k
    ·subst F
     rw[y]at d;injection d with d;subst d
     rw[t]at b;injection b with b
     subst e1;rw[g]at H;injection H with H
     rw[m,E b H]
    ·exact M j Z (by omega) d b H,c.less⟩
   by_cases o:B=true
   ·subst o
    by_cases x:X=true
    ·subst x
     by_cases K:J=true
     ·subst K
      simp only[Uk];exact⟨_,rfl,by simp only;rw[Xd],U (λ_ _=>rfl)⟩
     ·have A:J=false:=by simpa using K
      subst A;simp only[Uk,UN,Uj];have V:=Zzs s (Gf l).toNat m;have G:=c.less;refine⟨_,rfl,by simp only;rw[Xd],by simp[I],λa n=>?_,λa n=>ZCv a (c.up a n),λh=>(by cases h),?_⟩
      ·simp only at n
       rw[UX]at n;split at n
       ·rename_i e
        rw[<-e,show((Gf l).toNat:Int)=Gf l by omega];have H:=c.snd _ g;rw[show((Gc l).toNat:Int)=Gc l by omega]at H;exact .step H ⟨k,l,y,t,rfl,rfl⟩
       ·exact c.snd a n
      ·simp only[Uk]
       have:(if C=true then 1 else 0)<=1:=by split<;>omega
       omega
    ·have z:X=false:=by simpa using x
     subst z;simp only[Uk,UN,Uj];exact⟨_,rfl,by simp only;rw[Xd],U (λ_ h=>by cases h)⟩
   ·have p:B=false:=by simpa using o
    subst p;simp only[Uk,UN,Uj];exact ⟨_,rfl,by simp only;rw[Xd],U (λh=>by cases h)⟩)
  (by
   rintro ⟨C,i,s,⟨⟩⟩ ⟨q,c⟩;simp only at q c;subst q;simp only[XQ,Ui,Uj];exact ⟨_,rfl,C,s,rfl,c⟩)
 exact⟨C,s,P,x⟩
theorem ZpF (D:N<=1000) (u:InN N L) (m:L.length<=6000) (o:lv.length=L.length) {node:Int} (X:0<=node/\node<(N:Int)) :
  ∃r,J6 (N:Int) L lv node true=some r/\r.length=N/\∀(a:Nat) (b:Bool),r[a]?=some b->(b=true<->Rch L lv (λa=>a=node) (a:Int)):=by
 unfold J6;obtain⟨x,J,_⟩:=Zfk (l:=List.replicate (Int.toNat (N:Int)) false) X.1 (by simp;exact X.2);rw[Ra,Ra,Ra,Ra,J,Bq];have p:(node.toNat:Int)=node:=by omega
 have:=Ze5 (σ:=Bool×List Bool×Unit) (ρ:=List Bool) (step:=λv=>Vq L lv true v.1 v.2.1)
  (λv=>v.2.1.length=N/\(∀a:Nat,v.2.1[a]?=some true->Rch L lv (λa=>a=node) (a:Int))/\v.2.1[node.toNat]?=some true/\(v.1=false->Closed L lv L.length v.2.1))
  (λv=>2*cf v.2.1+(if v.1=true then 1 else 0))
  (λr=>r.length=N/\∀(a:Nat) (b:Bool),r[a]?=some b->(b=true<->Rch L lv (λa=>a=node) (a:Int)))
  (v:=(true,List.set (List.replicate (Int.toNat (N:Int)) false) (Int.toNat node) true,()))
  ⟨by simp,λa n=>(by
   simp only at n;rw[UX]at n;split at n
   ·rename_i e;rw[<-e];exact .base p
   ·rw[Kc]at n
    split at n
    ·cases n
    ·cases n),(by simp only;rw[UF (by simp;omega)]),λh=>(by cases h)⟩
  (by
   rintro⟨y,s,⟨⟩⟩ ⟨e1,E,j,t⟩;simp only at e1 E j t;simp only[Vq];by_cases q:y=true
   ·rw[Uc q]
    obtain⟨C,S,d,f⟩:=round_eq u m o e1 E;rw[d];refine .inl ⟨_,rfl,⟨f.len,f.snd,f.up _ j,λh=>?_⟩,?_⟩
    ·obtain⟨e,H⟩:=f.still h
     simp only;rw[e];exact H
    ·have G:=f.less
     simp only[q,Uk];by_cases i:C=true
     ·simp only[i,Uk]at G ⊢;omega
     ·simp only[i,Uj]at G ⊢;omega
   ·rw[Ue q]
    have H:=t (by simpa using q);refine .inr ⟨s,rfl,e1,λa b w=>?_⟩;constructor
    ·intro h;subst h;exact E a w
    ·intro h
     have g:∀c:Int,Rch L lv (λa=>a=node) c->(0<=c/\s[c.toNat]?=some true):=by
      intro c q;refine q.sub (T:=λc=>0<=c/\s[c.toNat]?=some true) (λa n=>by subst n;exact⟨X.1,j⟩) (λa c n I=>?_);obtain⟨k,l,d,z,A,B⟩:=I;have F:=u l (Ud d);refine⟨by omega,?_⟩;rw[<-B];exact H k l (Ub.1 d).1 d z (by rw[A];exact n.2)
     have:=(g (a:Int) h).2;rw[UG,w] at this;injection this)
 exact this
def YM {α:Type} (o:Option α) (Q:α->Prop):Prop:=∃a,o=some a/\Q a
variable {α:Type} {a:α} {Q:α->Prop}
theorem YM.ret (h:Q a):YM (some a) Q:=⟨a,rfl,h⟩
variable {β:Type} {o:Option α} {P:α->Prop} {f:α->Option β}
theorem YM.bind {Q:β->Prop} (h:YM o P) (k:∀a,P a->YM (f a) Q):YM (o.bind f) Q:=by
 obtain⟨a,e,g⟩:=h;rw[e];exact k a g
variable {p:Prop}
theorem YM.guard (h:p) (k:YM o Q):YM (Zw p o) Q:=by rw[Zk h];exact k
theorem YM.ite [Decidable p] {a b:Option α} (d:p->YM a Q) (f:¬p->YM b Q):YM (if p then a else b) Q:=by
 split
 ·exact d (by assumption)
 ·exact f (by assumption)
variable {l:List α}
theorem YM.at {i:Int} {Q:β->Prop} (H:0<=i) (d:i<(l.length:Int)) (k:∀x,x∈l->l[i.toNat]?=some x->YM (f x) Q):YM ((atI l i).bind f) Q:=by
 obtain⟨x,e,h⟩:=Zjv H d;rw[e];exact k x (Ud h) h
theorem YM.mono (h:YM o P) (k:∀a,P a->Q a):YM o Q:=by
 obtain⟨a,e,g⟩:=h;exact⟨a,e,k a g⟩
theorem YM.of (e:o=some a) (h:Q a):YM o Q:=⟨a,e,h⟩
def Rnd {τ ρ:Type} (I:τ->Prop) (μ:τ->Nat) (m:Nat) (Q:ρ->Prop):τ⊕ρ->Prop
 | .inl v=>I v/\μ v<m
 | .inr r=>Q r
theorem YM.loop {τ ρ:Type} {step:τ->Option (τ⊕ρ)} (I:τ->Prop) (μ:τ->Nat) {Q:ρ->Prop} {v:τ} (k:I v) (q:∀v,I v->YM (step v) (Rnd I μ (μ v) Q)):YM (Zt step v) Q:=by
 refine Ze5 I μ Q k (λv m=>?_);obtain⟨r,e,h⟩:=q v m;cases r with
 |inl v'=>exact .inl ⟨v',e,h⟩
 |inr r=>exact .inr ⟨r,e,h⟩
structure Src (s:Zd):Prop where
 code:∀x∈Hq s,0<=x/\x<=255
 len:(Hq s).length<=5000
 at0:0<=Zd.at s
 at1:Zd.at s<=5000
 sd0:0<=GP s
 sd1:GP s<2147483647
def Bel (n k:Int):Prop:=0<=k/\(k<n\/k=0)
theorem ZE {s:Zd} (H:Src s) (n:Int):YM (Zi s n) (λr=>Bel n r.1/\Src r.2):=by
 obtain⟨h,l,a0,A,s0,S⟩:=H;unfold Zi;split
 ·exact .ret ⟨⟨U7 _,.inr rfl⟩,⟨h,l,a0,A,s0,S⟩⟩
 rename_i X;split
 ·rename_i t
  refine .at a0 t λx b _=>?_;obtain⟨b0,N⟩:=h x b;have e1:Wq (Zd.at s+1)=Zd.at s+1:=QR;have f:Wq x=x:=QR;have i:Wq (GP s*48271)=GP s*48271:=QR;have E:Wq (GP s*48271+x)=GP s*48271+x:=QR;have g:Wq (GP s*48271+x+1)=GP s*48271+x+1:=QR;simp only[f,i,E,g,e1];split
  ·refine .guard (by omega) (.ret ⟨⟨KW _ b0,.inl (KC _ (by omega))⟩,⟨h,l,?_,?_,s0,S⟩⟩)
   ·show 0<=Zd.at s+1;omega
   ·show Zd.at s+1<=5000;omega
  ·have M:=KW (a:=GP s*48271+x+1) 2147483647 (by omega)
   have c:=KC (GP s*48271+x+1) (show(0:Int)<2147483647 by omega);refine .guard (by omega) (.ret ⟨⟨KW _ M,.inl (KC _ (by omega))⟩,⟨h,l,?_,?_,M,c⟩⟩)
   ·show 0<=Zd.at s+1;omega
   ·show Zd.at s+1<=5000;omega
 ·have i:Wq (GP s*48271)=GP s*48271:=QR
  have E:Wq (GP s*48271+11)=GP s*48271+11:=QR;simp only[i,E];have M:=KW (a:=GP s*48271+11) 2147483647 (by omega);have c:=KC (GP s*48271+11) (show(0:Int)<2147483647 by omega);generalize (GP s*48271+11).tmod 2147483647=q at M c;have D:q.tdiv 7=q/7:=U8 M;rw[D,QR (n:=q/7)];exact .guard (by omega) (.ret ⟨⟨KW _ (by omega),.inl (KC _ (by omega))⟩,⟨h,l,a0,A,M,c⟩⟩)
variable {code:List Int}
theorem ZuF (q:∀x∈code,0<=x/\x<=255) (H:code.length<=5000:=by omega):YM (Zfr code) Src:=by
 unfold Zfr;refine YM.loop (λv=>0<=v.1/\v.1<=64/\0<=v.2.1/\v.2.1<2147483647) (λv=>(64-v.1).toNat) ⟨U7 _,by show(0:Int)<=64;omega,by show(0:Int)<=12345;omega,by show(12345:Int)<2147483647;omega⟩ ?_;rintro⟨i,c,⟨⟩⟩ ⟨I,i1,c0,c1⟩;simp only at I i1 c0 c1;have J:YM (some (.inr (code,(0:Int),c,()):(Int×Int×Unit)⊕Zd)) (Rnd (λv:Int×Int×Unit=>0<=v.1/\v.1<=64/\0<=v.2.1/\v.2.1<2147483647) (λv=>(64-v.1).toNat) ((λv:Int×Int×Unit=>(64-v.1).toNat) (i,c,())) Src) :=
  .ret (show Src (code,(0:Int),c,())from⟨q,H,U7 _,by show(0:Int)<=5000;omega,c0,c1⟩)
 show YM (Zen code i c) _;unfold Zen;split
 ·rename_i l
  split
  ·rename_i h
   refine .at I l λx a _=>?_;obtain⟨b0,N⟩:=q x a;have e1:Wq (i+1)=i+1:=QR;have f:Wq x=x:=QR;have e:Wq (c*31)=c*31:=QR;have E:Wq (c*31+x)=c*31+x:=QR;simp only[e1,f,e,E];refine .ret ⟨⟨?_,?_,KW _ (by omega),KC _ (by omega)⟩,?_⟩
   ·show 0<=i+1;omega
   ·show i+1<=64;omega
   ·show(64-(i+1)).toNat<(64-i).toNat;omega
  ·exact J
 ·exact J
theorem Zwr (q:∀x∈code,0<=x/\x<=255) (h:code.length<=4096):YM (Zfr code) Src:=ZuF q
theorem Zna {n:Int} (c:0<=n:=by omega) (d:n<100:=by omega):YM (Zaf n) (λr=>r.length<=2):=by
 have one:∀(k:Nat) (m:Int),0<=m->m<10->Q9 (k+1) m=some (bytesOf [IntKind.wrap IntKind.u8 (Wq (48+m))]):=λk m a b=>by
  show Xb (Q9 k) m=_;unfold Xb;rw[QQ,Uc b]
 have H:∀x:Int,(bytesOf [x]).length=1:=λx=>rfl;unfold Zaf;by_cases h:n<10
 ·refine .of (Zqx ⟨1,one 0 n c h⟩ (λk r F=>?_)) (by rw[H];omega)
  cases k with
  |zero=>cases F
  |succ k=>rw[one k n c h]at F;injection F with F;exact F.symm
 ·have L:n.tdiv 10=n/10:=U8 c
  have two:∀k:Nat,Q9 (k+2) n=some (bytesOf [IntKind.wrap IntKind.u8 (Wq (48+n/10))]++bytesOf [IntKind.wrap IntKind.u8 (Wq (48+n.tmod 10))]):=λk=>by
   show Xb (Q9 (k+1)) n=_;unfold Xb;rw[QQ,Ue h,L,QR (n:=n/10),one k (n/10) (by omega) (by omega),Bq,Zk (by rw[H,H];omega)]
  refine .of (Zqx ⟨2,two 0⟩ (λk r F=>?_)) (by rw[Uh,H,H];omega)
  match k,F with
  |0,F=>cases F
  |1,F =>
   exfalso;revert F;show ¬Xb (Q9 0) n=some r;unfold Xb;rw[QQ,Ue h];intro F;cases F
  |k+2,F=>rw[two k]at F;injection F with F;exact F.symm
variable {x:α}
theorem QE (h:∀y∈l,P y) (H:P x):∀y∈l++[x],P y:=by
 intro y i;rcases Uu.1 i with i|i
 ·exact h y i
 ·rw[Ut]at i
  rw[i];exact H
theorem ZpR (h:∀y∈l,P y) (a:P x):∀y∈l.set i x,P y:=by
 intro y H;rcases Ke H with H|H
 ·exact h y H
 ·rw[H];exact a
variable {l:List Int}
theorem smI (h:l.length<=1048576):sm (.sl (.int .i64)) l:=⟨by omega,λ_ _=>trivial⟩
theorem smS {s:List UInt8} (h:s.length<=1048576):sm .str s:=by show(s.length:Int)<=1048576;omega
theorem smL {t:Ty} {l:List t.den} (h:l.length<=1048576) (f:∀x∈l,sm t x):sm (.sl t) l:=⟨by omega,f⟩
def ZjX (L:List Zn):List Zn:=L.map (λl=>(Gf l,Gc l,GH l,l.2.2.2))
theorem Zp7 (L:List Zn):(ZjX L).length=L.length:=U5 ..
theorem ZzQ (f:α->β) (l:List α) (i:Int):atI (l.map f) i=(atI l i).map f:=by
 unfold atI;grind
theorem Zu3 (n node:Int) (L:List Zn) (lv:List Bool):J6 n L lv node false=J6 n (ZjX L) lv node true:=by
 have E:∀(c:Bool) (k:Int) (Z:List Bool),XQ L lv false c k Z=XQ (ZjX L) lv true c k Z:=by
  intro c k Z;unfold XQ;rw[Zp7];by_cases h:k<(L.length:Int)
  ·rw[Uc h,Uc h]
   unfold ZjX;rw[ZzQ];cases atI L k with
   |none=>rfl
   |some x=>rfl
  grind
 have e1:∀(c:Bool) (l0:List Bool),Vq L lv false c l0=Vq (ZjX L) lv true c l0:=by
  intro c l0;unfold Vq;simp only[E]
 unfold J6;simp only[e1]
variable {c:Int}
theorem ZrB {a:Int} (h:Live (ZjX L) lv a c):Live L lv c a:=by
 obtain⟨k,l,d,f,g,i⟩:=h;unfold ZjX at d;rw[UL,Ku]at d;obtain⟨x,H,rfl⟩:=d;exact⟨k,x,H,f,i,g⟩
theorem Zps {a:Int} (h:Live L lv c a):Live (ZjX L) lv a c:=by
 obtain⟨k,l,d,f,g,i⟩:=h;exact⟨k,_,by unfold ZjX;rw[UL,d];rfl,f,i,g⟩
theorem Zyr (h:InN N L):InN N (ZjX L):=λl q=>by
 unfold ZjX at q;obtain⟨x,H,rfl⟩:=KQ.1 q;exact⟨(h x H).2,(h x H).1⟩
structure Scc (N:Nat) (L:List Zn) (lv:List Bool) (v:Int) (m:List Int):Prop where
 mem:∀c,c∈m<->((0<=c/\c<(N:Int))/\Rch L lv (λa=>a=v) c/\Rch (ZjX L) lv (λa=>a=v) c)
 nod:m.Nodup
 len:m.length<=N
 more:1<m.length\/∃(k:Nat) (l:Zn),L[k]?=some l/\lv[k]?=some true/\Gc l=v/\Gf l=v
 v0:0<=v/\v<(N:Int)
theorem ZsV (v:Int):∀{m:List Int},m.Nodup->1<m.length->∃a,a∈m/\a≠v
 |[],_,h=>by simp at h
 |[_],_,h=>by simp at h
 |a::b::r,X,_=>by
  by_cases q:a=v
  ·refine⟨b,by simp,λe=>?_⟩
   grind
  simp_all
variable {v:Int} {m:List Int}
theorem Scc.cell (h:Scc N L lv v m) {D:Int->Prop} (s:InN N L) (A:∀l∈L,GH l=1\/(D (Gc l)/\¬D (Gf l))) :
  ∃(k:Nat) (l:Zn),L[k]?=some l/\lv[k]?=some true/\GH l=1/\Gc l∈m/\Gf l∈m:=by
 apply Uz;intro w;have key:∀(a c:Int),Live L lv a c->a∈m->c∈m->D a/\¬D c:=by
  rintro a c ⟨k,l,d,i,rfl,rfl⟩ n j;grind
 have inn:∀{a c:Int},Live L lv a c->(0<=a/\a<(N:Int))/\(0<=c/\c<(N:Int)):=by
  rintro a c ⟨k,l,d,i,rfl,rfl⟩;exact s l (Ud d)
 have B:v∈m:=(h.mem v).2 ⟨h.v0,.base rfl,.base rfl⟩;rcases h.more with u|⟨k,l,d,i,y,z⟩
 ·obtain⟨a,n,b⟩:=ZsV v h.nod u
  obtain⟨_,o,p⟩:=(h.mem a).1 n;have r:=o;have R:=p;cases o with
  |base q=>exact b q
  |@step c _ x e =>
   have j:c∈m:=(h.mem c).2 ⟨(inn e).1,x,R.step (Zps e)⟩;have k1:=key _ _ e j n;cases p with
   |base q=>exact b q
   |@step C _ g f =>
    have H:=ZrB f;have t:C∈m:=(h.mem C).2 ⟨(inn H).2,r.step H,g⟩;grind
 grind
def Drv (b:Zc) (a:Int):Prop:=∃p,(ZB (K3 b))[(a/2).toNat]?=some p/\p.2.2.2.1=true
variable {b:Zc}
theorem ZuK (h:Xh b):∀l∈Zm b,GH l=1\/(Drv b (Gc l)/\¬Drv b (Gf l)):=by
 intro l d;unfold Zm at d;rcases Uu.1 d with d|d
 ·left
  obtain⟨i,x,F,H⟩:=XZ.1 d;unfold ZlQ at H;split at H
  ·obtain⟨k,a,D,e⟩:=XZ.1 H
   unfold Znm at e;obtain⟨p,o,rfl⟩:=KQ.1 e;rfl
  ·cases H
 ·right
  obtain⟨v,w,B,H⟩:=XZ.1 d;rw[Uw]at H;have A:v<(Gp (K3 b)).length:=by
   have:=(Ub.1 B).1;have:=h.ok.2.1;omega
  obtain⟨q,y,C,n,u,_⟩:=Ztx h.ok.1 (Zkc h.sm).2.1 A;obtain⟨j,s,z,f⟩:=XZ.1 H;have g:=Ud z;unfold Zae at g;obtain⟨k,x,r,G⟩:=XZ.1 g;have R:s=(k:Int)/\¬x.2.2.2.1=true:=by
   unfold Zgs at G;grind
  have m:y.2.2.2.1=true:=by
   unfold Ztw at n;grind
  have two:∀c:Int,c=0\/c=1->Drv b (2*ZhL (K3 b) (v:Int)+c)/\¬Drv b (2*s+c):=λc E=>by
   refine⟨⟨y,?_,m⟩,λL=>?_⟩
   ·rw[u,show((2*(q:Int)+c)/2).toNat=q by omega]
    exact C
   ·obtain⟨p,o,t⟩:=L
    rw[R.1,show((2*(k:Int)+c)/2).toNat=k by omega,r]at o;grind
  simp only[Us,UR,Kd]at f;rcases f with rfl|rfl
  ·exact two 0 (.inl rfl)
  ·exact two 1 (.inr rfl)
def ct (l:List Bool):Nat:=l.countP (λb=>b)
theorem Zzt:∀(l:List Bool) (i:Nat),l[i]?=some true->ct (l.set i false)+1=ct l
 |[],_,h=>by simp at h
 |b::l,0,h=>by simp at h;subst h;simp[ct]
 |b::l,i+1,h=>by
  have:=Zzt l i (by simpa using h);unfold ct at this ⊢;grind
theorem Zug:Rch (ZjX L) lv (λx=>x=v) c<->RR L lv c v:=by
 constructor
 ·intro h
  induction h with
  |base e=>rw[e];exact RR.refl _
  |step _ q i=>exact RR.trans (.step (RR.refl _) (ZrB q)) i
 ·intro h
  induction h with
  |base e=>exact .base e.symm
  |step _ q i=>exact RR.trans (L:=ZjX L) (.step (RR.refl _) (Zps q)) i
theorem Zy0 (c:L.length<=6000) (m:lv.length=L.length) (v:Int):YM (Zg7 L lv v) (λr=>r=true<->Live L lv v v):=by
 unfold Zg7;refine YM.loop (λs=>0<=s.1/\s.1<=6000/\∀(j:Nat) (l:Zn),(j:Int)<s.1->L[j]?=some l->lv[j]?=some true->Gc l=v->Gf l=v->False) (λs=>(6000-s.1).toNat) ⟨U7 _,by dsimp only;omega,λj l b=>by dsimp only at b;omega⟩ ?_;rintro⟨k,⟨⟩⟩ ⟨k0,k1,K⟩;dsimp only at k0 k1 K;show YM (ZeB L lv v k) _;unfold ZeB;have n:Wq (k+1)=k+1:=QR;have st:(∀l,L[k.toNat]?=some l->lv[k.toNat]?=some true->Gc l=v->Gf l=v->False)->∀(j:Nat) (l:Zn),(j:Int)<k+1->L[j]?=some l->lv[j]?=some true->Gc l=v->Gf l=v->False:=λX j l b d f g i=>by
  by_cases e:(j:Int)<k
  ·exact K j l e d f g i
  ·have G:j=k.toNat:=by omega
   subst G;exact X l d f g i
 simp only[n];refine YM.ite (λH=>?_) (λH=>.ret (show false=true<->_ from⟨λq=>(by cases q),λ⟨j,l,d,f,g,i⟩=>(K j l (by have:=(Ub.1 d).1;omega) d f g i).elim⟩));refine .at k0 (by omega) λx u I=>?_;refine YM.ite (λt=>?_) (λh=>.ret ⟨⟨by dsimp only;omega,by dsimp only;omega,st λl _ f _ _=>?_⟩,by dsimp only;omega⟩)
 ·refine .at k0 H λl p R=>?_
  refine YM.ite (λd=>?_) (λd=>.ret ⟨⟨by dsimp only;omega,by dsimp only;omega,st λo e1 _ E _=>?_⟩,by dsimp only;omega⟩)
  ·refine YM.ite (λf=>?_) (λf=>.ret ⟨⟨by dsimp only;omega,by dsimp only;omega,st λo e1 _ _ a=>?_⟩,by dsimp only;omega⟩)
   ·exact .ret (show true=true<->_ from⟨λ_=>⟨k.toNat,l,R,by rw[I,t],d,f⟩,λ_=>rfl⟩)
   ·rw[R]at e1
    injection e1 with e1
    subst e1;exact f a
  ·rw[R]at e1
   injection e1 with e1
   subst e1;exact d E
 ·rw[I]at f
  injection f with f
  exact h f
def Zmh (L:List Zn) (lv:List Bool) (v:Int) (l:List Bool):Prop:=∀a:Nat,l[a]?=some true->∃u,(0<=u/\u<v)/\RR L lv u (a:Int)/\RR L lv (a:Int) u
theorem Zmh.mono {l:List Bool} (h:Zmh L lv v l):Zmh L lv (v+1) l:=λa n=>by
 obtain⟨u,d,f⟩:=h a n;exact⟨u,⟨d.1,by omega⟩,f⟩
theorem Zj4 (D:N<=1000) (E:InN N L) (H:L.length<=6000) (g:lv.length=L.length):YM (Zf5 (N:Int) L lv) (ZbO N L lv (N:Int)):=by
 unfold Zf5;refine .guard (by omega) (.guard (U7 _) (.guard (by omega) (.guard (by omega) ?_)));refine YM.loop (λs=>0<=s.2.1/\s.2.1<=(N:Int)/\(s.1.length:Int)<=s.2.1/\ZbO N L lv s.2.1 s.1/\s.2.2.1.length=N/\Zmh L lv s.2.1 s.2.2.1) (λs=>((N:Int)-s.2.1).toNat) ⟨U7 _,by dsimp only;omega,by grind,(by show ∀u:Int,0<=u->u<0->¬NT L lv u;intro u W d;omega),by simp,λa n=>by grind⟩ ?_;rintro⟨out,v,l0,⟨⟩⟩ ⟨i,i1,i2,j,T,B⟩;dsimp only at i i1 i2 j T B;show YM (ZdI (N:Int) L lv out v l0) _;unfold ZdI;have V:Wq (v+1)=v+1:=QR;refine YM.ite (λA=>?_) (λA=>.ret (show ZbO N L lv (N:Int) out from by rw[show(N:Int)=v by omega];exact j));refine .at i (by omega) λx hx I=>?_;refine YM.ite (λt=>?_) (λ_=>?_)
 ·rw[V]
  refine .ret ⟨⟨by dsimp only;omega,by dsimp only;omega,by dsimp only;omega,j.skip λe X=>?_,T,B.mono⟩,by dsimp only;omega⟩;rw[t]at I;obtain⟨u,Z,u2,u3⟩:=B v.toNat I;rw[show(v.toNat:Int)=v by omega]at u2 u3;subst e;exact j u Z.1 Z.2 (ZwR u2 u3)
 obtain⟨r0,e0,a3,W⟩:=ZpF D E H g (node:=v) ⟨i,A⟩;obtain⟨r1,e1,a4,d⟩:=ZpF (L:=ZjX L) D (Zyr E) (by rw[Zp7];exact H) (by rw[Zp7];exact g) (node:=v) ⟨i,A⟩;rw[<-Zu3]at e1;rw[e0,Bq,e1,Bq];refine YM.loop (λs=>(0<=s.2.1/\s.2.1<=(N:Int)/\(s.1.length:Int)<=s.2.1)/\ZcR (λc:Int=>c) s.1/\(s.2.2.1.length=N/\Zmh L lv (v+1) s.2.2.1)/\∀c,c∈s.1<->((0<=c/\c<s.2.1)/\RR L lv v c/\RR L lv c v)) (λs=>((N:Int)-s.2.1).toNat)
  ⟨⟨U7 _,by dsimp only;omega,by grind⟩,(by show ZcR (λc:Int=>c) [];exact List.Pairwise.nil),⟨T,B.mono⟩,λc=>⟨λh=>(by cases h),λh=>by grind⟩⟩ ?_
 rintro⟨m,k,l,⟨⟩⟩ ⟨⟨j0,j1,j2⟩,w,⟨o,J⟩,r⟩;dsimp only at j0 j1 j2 w o r J;show YM (ZdH (N:Int) L lv out v r0 r1 m k l) _;unfold ZdH;have ek:Wq (k+1)=k+1:=QR;simp only[ek,V];refine YM.ite (λhk=>?_) (λhk=>?_)
 ·refine .at j0 (by omega) λx hx I=>?_
  have p:(k.toNat:Int)=k:=by omega
  have a0:=W k.toNat x I;rw[p]at a0;have skip:(¬(RR L lv v k/\RR L lv k v))->∀c,c∈m<->((0<=c/\c<k+1)/\RR L lv v c/\RR L lv c v):=λX c=>by
   rw[r c];constructor
   ·rintro⟨d,f⟩;exact⟨⟨d.1,by omega⟩,f⟩
   ·rintro⟨d,f⟩
    refine⟨⟨d.1,?_⟩,f⟩;by_cases e:c=k
    ·subst e;exact absurd f X
    ·omega
  refine YM.ite (λt=>?_) (λP=>?_)
  ·refine .at j0 (by omega) λy hy Q=>?_
   have C:=d k.toNat y Q;rw[p,Zug]at C;refine YM.ite (λS=>?_) (λR=>?_)
   ·have b0:=a0.1 t
    have U:=C.1 S;refine .guard (by grind) ?_;refine .at j0 (by omega) λ_ _ _=>?_;refine .ret ⟨⟨⟨by dsimp only;omega,by dsimp only;omega,by simp_all⟩,?_,⟨by grind,λa n=>?_⟩,λc=>?_⟩,by dsimp only;omega⟩
    ·show ZcR (λc:Int=>c) (m++[k])
     refine List.pairwise_append.2 ⟨w,List.pairwise_singleton ..,λa n b hb=>?_⟩;rw[Ut.1 hb];exact((r a).1 n).1.2
    ·dsimp only at n
     rw[UX]at n;split at n
     ·rename_i e
      rw[show(a:Int)=k by omega];exact⟨v,⟨i,by omega⟩,b0,U⟩
     ·exact J a n
    ·dsimp only
     rw[Uu,Ut,r c];constructor
     ·rintro(⟨d,f⟩|rfl)
      ·exact⟨⟨d.1,by omega⟩,f⟩
      ·exact⟨⟨j0,by omega⟩,b0,U⟩
     ·rintro⟨d,f⟩
      by_cases e:c=k
      ·exact .inr e
      ·exact .inl ⟨⟨d.1,by omega⟩,f⟩
   ·exact .ret ⟨⟨⟨by dsimp only;omega,by dsimp only;omega,by dsimp only;omega⟩,w,⟨o,J⟩,skip λq=>R (C.2 q.2)⟩,by dsimp only;omega⟩
  ·exact .ret ⟨⟨⟨by dsimp only;omega,by dsimp only;omega,by dsimp only;omega⟩,w,⟨o,J⟩,skip λq=>P (a0.2 q.1)⟩,by dsimp only;omega⟩
 ·have K:k=(N:Int):=by omega
  have F:Zvm N L lv v m:=⟨λc=>by rw[r c,K],w⟩;have G:=F.two E ⟨i,A⟩;have a2:m.length<=N:=by omega
  refine YM.ite (λd=>?_) (λd=>?_)
  ·refine .guard (by grind) (.ret ⟨⟨by dsimp only;omega,by dsimp only;omega,by grind,j.add i (G.2 (.inl (by omega))) F,o,J⟩,by dsimp only;omega⟩)
  ·refine(Zy0 H g v).bind λq Y=>?_
   refine YM.ite (λO=>?_) (λM=>?_)
   ·exact .guard (by grind) (.ret ⟨⟨by dsimp only;omega,by dsimp only;omega,by grind,j.add i (G.2 (.inr (Y.1 O))) F,o,J⟩,by dsimp only;omega⟩)
   ·refine .ret ⟨⟨by dsimp only;omega,by dsimp only;omega,by dsimp only;omega,j.skip λ_ X=>?_,o,J⟩,by dsimp only;omega⟩
    rcases G.1 X with z|z
    ·omega
    ·exact M (Y.2 z)
def ZlV (lv:List Bool) (m:List Int) (k:Nat) (x:Zn) (s:Int):Int:=if(lv[k]?).getD false=true/\GH x=1/\Gc x∈m/\Gf x∈m then(k:Int)else s
def lastOf (L:List Zn) (lv:List Bool) (m:List Int):Int:=XU (ZlV lv m) 0 L (-1)
def ZBC (L:List Zn) (lv:List Bool) (m:List Int) (k:Nat):Prop:=∃x,L[k]?=some x/\lv[k]?=some true/\GH x=1/\Gc x∈m/\Gf x∈m
variable {k:Nat} {x:Zn} {s:Int}
theorem Zrz (d:lv[k]?=some true) (f:GH x=1) (g:Gc x∈m) (i:Gf x∈m):ZlV lv m k x s=(k:Int):=by
 unfold ZlV;rw[Uc ⟨by rw[d];rfl,f,g,i⟩]
theorem ZiN (h:lv[k]?=some true->GH x=1->Gc x∈m->Gf x∈m->False):ZlV lv m k x s=s:=by
 unfold ZlV;rw[Ue];rintro⟨d,f,g,i⟩;refine h ?_ f g i;cases e:lv[k]? with
 |none=>rw[e]at d;cases d
 |some z=>rw[e]at d;exact Ka some d
theorem ZwJ {L:List Zn} {lv:List Bool} {m:List Int}:∀n,n<=L.length->(XU (ZlV lv m) 0 (L.take n) (-1)=-1/\∀k,k<n->¬ZBC L lv m k)\/∃k:Nat,XU (ZlV lv m) 0 (L.take n) (-1)=(k:Int)/\k<n/\ZBC L lv m k
 |0,_=>.inl ⟨by rw[Ki];rfl,λk h=>by omega⟩
 |n+1,X=>by
  have l:n<L.length:=by omega
  have H:L[n]?=some (L[n]'l):=Ua l;generalize L[n]'l=x at H;rw[Zcq H];by_cases c:ZBC L lv m n
  ·obtain⟨y,e1,E,i,a,b⟩:=id c
   rw[H]at e1;injection e1 with e1
   subst e1;exact .inr ⟨n,Zrz E i a b,by omega,c⟩
  ·rw[ZiN λd f g j=>c ⟨x,H,d,f,g,j⟩]
   rcases ZwJ (L:=L) (lv:=lv) (m:=m) n (by omega)with⟨d,f⟩|⟨k,d,f,g⟩
   ·refine .inl ⟨d,λk o=>?_⟩
    by_cases e:k=n
    ·rw[e];exact c
    ·exact f k (by omega)
   ·exact .inr ⟨k,d,by omega,g⟩
theorem ZAm (h:∃k,ZBC L lv m k):∃k:Nat,lastOf L lv m=(k:Int)/\ZBC L lv m k:=by
 have:=ZwJ (L:=L) (lv:=lv) (m:=m) L.length (UE _);rw[Ur]at this;rcases this with⟨_,f⟩|⟨k,d,_,g⟩
 ·obtain⟨k,H⟩:=h
  obtain⟨x,l,_⟩:=id H;exact absurd H (f k (Ub.1 l).1)
 ·exact⟨k,d,g⟩
def Zkz (k:Nat) (x:Bool):List Int:=if x=true then[]else[(k:Int)]
def dead (lv:List Bool):List Int:=cat Zkz 0 lv
theorem Zrd (k:Nat) (x:Bool):(Zkz k x).length<=1:=by
 unfold Zkz;split<;>simp
theorem Znp (b:lv.length<=6000):Zt (λv=>Jw lv v.1 v.2.1) (([]:List Int),(0:Int),())=some (.inr (dead lv)):=by
 refine Xx (l:=lv) Zkz [] (step:=λv=>Jw lv v.1 v.2.1) (good:=.inr (dead lv)) (λk x h H=>?_) ?_
 ·have d:=VJ (f:=Zkz) (c:=1) (l:=lv.take k) (m:=0) (λk x _=>Zrd k x)
  rw[Uo]at d;simp only[Uq,Jw,show(k:Int)<(lv.length:Int)from by omega,Uk,Zv,h,Bq,Xd (show k<=1048576 by omega)];generalize cat Zkz 0 (lv.take k)=a at d;unfold Zkz;by_cases q:x=true
  ·rw[Uc q,Uc q,Um]
  ·rw[Ue q,Ue q,Zk (by simp only[Uf,Ug];omega)]
 ·simp only[Uq,Jw,Ui,Uj]
  rfl
theorem Zvm.scc (n:InN N L) (h:Zvm N L lv v m) (H:0<=v/\v<(N:Int)) (X:NT L lv v):Scc N L lv v m where
 mem c:=by rw[h.mem c,Zug]
 nod:=by
  rw[List.nodup_iff_pairwise_ne];exact List.Pairwise.imp (λ{a b} (h:a<b) (e:a=b)=>by omega) h.inc
 len:=by
  have d:m.Nodup:=by
   rw[List.nodup_iff_pairwise_ne];exact List.Pairwise.imp (λ{a b} (h:a<b) (e:a=b)=>by omega) h.inc
  have:=ZkU m (ZjH N) d (λx o=>Zhw.2 ((h.mem x).1 o).1);rw[Zl2]at this;exact this
 more:=by
  rcases(h.two n H).1 X with q|⟨k,l,f,g,i,j⟩
  ·exact .inl q
  ·exact .inr ⟨k,l,f,g,i,j⟩
 v0:=H
def Zge (N:Nat) (L:List Zn) (lv:List Bool) (m:List Int):Prop:=∃w,(0<=w/\w<(N:Int))/\NT L lv w/\(∀u,0<=u->u<w->¬NT L lv u)/\Zvm N L lv w m
theorem Zge.unique {M:List Int} (h:Zge N L lv m) (H:Zge N L lv M):m=M:=by
 have a:ZbO N L lv (N:Int) [m]:=h;have b:ZbO N L lv (N:Int) [M]:=H;rcases a.unique b with⟨e,_⟩|⟨x,t,t',e1,f⟩
 ·cases e
 ·injection e1 with e1
  injection f with f
  rw[e1,f]
theorem Zge.nt (h:Zge N L lv m):∃v,NT L lv v:=by
 obtain⟨w,_,f,_⟩:=h;exact⟨w,f⟩
open Classical in
noncomputable def ZAb (b:Zc) (br:List Int):List Int:=if h:∃m,Zge (QU b) (Zm b) (XG b br) m then Classical.choose h else[]
variable {br:List Int}
theorem Zp5 (h:Zge (QU b) (Zm b) (XG b br) m):ZAb b br=m:=by
 unfold ZAb;have l:∃m,Zge (QU b) (Zm b) (XG b br) m:=⟨m,h⟩;rw[dif_pos l];exact(Kj l).unique h
noncomputable def Zq9 (b:Zc):Nat->List Int->List Int
 |0,br=>br
 |n+1,br=>match tr (∃v,NT (Zm b) (XG b br) v)with
  |true=>Zq9 b n (br++[lastOf (Zm b) (XG b br) (ZAb b br)])
  |false=>br
theorem ZzX (h:Xh b) (R:Zge (QU b) (Zm b) (XG b br) m):∃k,ZBC (Zm b) (XG b br) m k:=by
 obtain⟨w,d,f,_,i⟩:=R;obtain⟨k,l,c1,c2,O,Q,Z⟩:=(i.scc (Zhu h) d f).cell (Zhu h) (ZuK h);exact⟨k,l,c1,c2,O,Q,Z⟩
theorem Zqr (h:Xh b) (R:Zge (QU b) (Zm b) (XG b br) m):∃k:Nat,lastOf (Zm b) (XG b br) m=(k:Int)/\k<(Zm b).length/\(XG b br)[k]?=some true/\List.set (XG b br) k false=XG b (br++[(k:Int)])/\ct (XG b (br++[(k:Int)]))+1=ct (XG b br):=by
 obtain⟨k,e,x,l,q,_⟩:=ZAm (ZzX h R);have a:=(Ub.1 l).1;have H:List.set (XG b br) k false=XG b (br++[(k:Int)]):=by
  have:=Zpr (n:=(Zm b).length) (s:=br) (x:=(k:Int));rw[UG]at this;exact this
 refine⟨k,e,a,q,H,?_⟩;rw[<-H];exact Zzt _ _ q
theorem Zxt (h:Xh b) {t:List (List Int)} (C:Zge (QU b) (Zm b) (XG b br) m) (H:m.length<=1048576) (y:lastOf (Zm b) (XG b br) m=(k:Int)) (A:k<(Zm b).length) :
  Zt (λs=>Jy (Zm b) (XG b br) s.1 s.2.1 s.2.2.1) ((-1:Int),(0:Int),m::t,())=some (.inl (List.set (XG b br) k false,())):=by
 have B:=Y2 h;have o:(XG b br).length=(Zm b).length:=Qo _ _;have:YM (Zt (λs=>Jy (Zm b) (XG b br) s.1 s.2.1 s.2.2.1) ((-1:Int),(0:Int),m::t,())) (λr=>r=.inl (List.set (XG b br) k false,())):=by
  refine YM.loop (λs=>0<=s.2.1/\s.2.1<=((Zm b).length:Int)/\s.2.2.1=m::t/\s.1=XU (ZlV (XG b br) m) 0 ((Zm b).take s.2.1.toNat) (-1)) (λs=>(((Zm b).length:Int)-s.2.1).toNat)
   ⟨U7 _,by dsimp only;omega,rfl,rfl⟩ ?_
  rintro⟨w,i,Z,⟨⟩⟩ ⟨c,i1,p,j⟩;dsimp only at c i1 p j;subst p;show YM (Jy (Zm b) (XG b br) w i (m::t)) _;unfold Jy;have G:Wq (i+1)=i+1:=QR;simp only[G];refine YM.ite (λg=>?_) (λg=>?_)
  ·have n:∀l,(Zm b)[i.toNat]?=some l->∀w',w'=ZlV (XG b br) m i.toNat l w->w'=XU (ZlV (XG b br) m) 0 ((Zm b).take (i+1).toNat) (-1):=λl o w' e=>by
    rw[show(i+1).toNat=i.toNat+1 by omega,Zcq o,e,j]
   have v:(Zm b)[i.toNat]?=some ((Zm b)[i.toNat]'(by omega)):=Ua _;refine .at c (by omega) λx D I=>?_;refine YM.ite (λa=>?_) (λf=>?_)
   ·refine .at c g λl X R=>?_
    refine YM.ite (λd=>?_) (λd=>?_)
    ·rw[show atI (m::t) (0:Int)=some m from rfl,Bq,Zhh _ _ H,Bq]
     refine YM.ite (λQ=>?_) (λQ=>?_)
     ·rw[Zhh _ _ H,Bq]
      refine YM.ite (λq=>?_) (λq=>?_)
      ·exact .ret ⟨⟨by dsimp only;omega,by dsimp only;omega,rfl,n l R _ (by rw[Zrz (by rw[I,a]) d (of_decide_eq_true Q) (of_decide_eq_true q)];omega)⟩,by dsimp only;omega⟩
      ·exact .ret ⟨⟨by dsimp only;omega,by dsimp only;omega,rfl,n l R _ (by rw[ZiN λ_ _ _ z=>q (UJ z)])⟩,by dsimp only;omega⟩
     ·exact .ret ⟨⟨by dsimp only;omega,by dsimp only;omega,rfl,n l R _ (by rw[ZiN λ_ _ z _=>Q (UJ z)])⟩,by dsimp only;omega⟩
    ·exact .ret ⟨⟨by dsimp only;omega,by dsimp only;omega,rfl,n l R _ (by rw[ZiN λ_ z _ _=>d z])⟩,by dsimp only;omega⟩
   ·exact .ret ⟨⟨by dsimp only;omega,by dsimp only;omega,rfl,n _ v _ (by rw[ZiN λz _ _ _=>by rw[I]at z;injection z with z;exact f z])⟩,by dsimp only;omega⟩
  ·have E:i=((Zm b).length:Int):=by omega
   have u:w=(k:Int):=by
    rw[j,E,UG,Ur,<-y];rfl
   subst u;refine .at (by omega) (by omega) λx _ _=>?_;exact .ret (show _=_ by rw[UG])
 obtain⟨r,e,rfl⟩:=this;exact e
theorem ZoY (h:Xh b):∀(n:Nat) (br:List Int),ct (XG b br)<=n->Zt (λs=>XR (Zm b) (QU b:Int) s.1) (XG b br,())=some (dead (XG b (Zq9 b n br))):=by
 intro n;have G:=Y2 h;have X:=ZfZ h;induction n with
 |zero =>
  intro br c;obtain⟨r,e1,o⟩:=Zj4 (lv:=XG b br) (by omega) (Zhu h) G (Qo _ _);cases r with
  |nil =>
   refine YF ?_;show XR (Zm b) (QU b:Int) (XG b br)=_;unfold XR;rw[e1,Bq,Uc (by simp),Znp (by rw[show(XG b br).length=(Zm b).length from Qo _ _];exact G)];rfl
  |cons m t =>
   have R:Zge (QU b) (Zm b) (XG b br) m:=o;obtain⟨k,_,_,_,_,q⟩:=Zqr h R;omega
 |succ n i =>
  intro br c;obtain⟨r,e1,o⟩:=Zj4 (lv:=XG b br) (by omega) (Zhu h) G (Qo _ _);unfold Zq9;cases r with
  |nil =>
   have H:¬∃v,NT (Zm b) (XG b br) v:=λ⟨v,a⟩=>by
    have B:=a.inn (Zhu h);exact o v B.1 B.2 a
   rw[ZT H];refine YF ?_;show XR (Zm b) (QU b:Int) (XG b br)=_;unfold XR;rw[e1,Bq,Uc (by simp),Znp (by rw[show(XG b br).length=(Zm b).length from Qo _ _];exact G)]
  |cons m t =>
   have R:Zge (QU b) (Zm b) (XG b br) m:=o;obtain⟨k,k1,d,_,K,e⟩:=Zqr h R;rw[ZR R.nt,Zp5 R,k1];have l:m.length<=1048576:=by
    obtain⟨w,w1,w2,_,w4⟩:=id R;have:=(w4.scc (Zhu h) w1 w2).len;omega
   refine(YW (v':=(XG b (br++[(k:Int)]),())) ?_).trans (i (br++[(k:Int)]) (by omega));show XR (Zm b) (QU b:Int) (XG b br)=_;unfold XR;rw[e1,Bq,Ue (by simp only[Uf];omega),Zxt h R l k1 d,K]
noncomputable def ZjO (b:Zc):List Int:=Zq9 b (Zm b).length []
theorem ZB3 (l:List Bool):ct l<=l.length:=KV
theorem ZqG (h:Xh b):ZeA b=some (dead (XG b (ZjO b))):=by
 have G:=Y2 h;unfold ZeA;rw[Zdh h,Bq,Zgu _ _ G (by simp),Bq,ZiM h,Bq];refine ZoY h _ [] ?_;have:=ZB3 (XG b []);rw[show(XG b []).length=(Zm b).length from Qo _ _]at this;exact this
def Zof (lv:List Bool) (node:Int) (k:Nat) (x:Zn):List Int:=if(lv[k]?).getD false=true then(if Gc x=node then(if Gf x=node then[(k:Int)]else[])else[])else[]
theorem Zxk (lv:List Bool) (node:Int) (k:Nat) (x:Zn):(Zof lv node k x).length<=1:=by
 unfold Zof;grind
variable {v:ZG}
theorem Zrs (h:Xh b) (t:VOk b v) (C:lv.length=(Zm b).length) (node:Int):JC (v,lv,()) node=some (tr (Live (Zm b) lv node node)):=by
 have G:=Y2 h;have E:ZG.links (ZM.view ((v,lv,()):ZM))=Zm b:=t.links;have j:ZM.live ((v,lv,()):ZM)=lv:=rfl;unfold JC Xe;have:=Xx (l:=Zm b) (ρ:=List Int) (Zof lv node) [] (step:=λu=>Yk (v,lv,()) (node,()) u.1 u.2.1) (good:=cat (Zof lv node) 0 (Zm b))
  (λk x i B=>by
   have d:lv[k]?=some (lv[k]'(by omega)):=Ua _;have n:=VJ (f:=Zof lv node) (c:=1) (l:=(Zm b).take k) (m:=0) (λk x _=>Zxk lv node k x);rw[Uo]at n;simp only[Yk,E,j,show(k:Int)<((Zm b).length:Int)from by omega,Uk,Zv,i,d,Bq,Zac,Uq,Xd (show k<=1048576 by omega)];generalize cat (Zof lv node) 0 ((Zm b).take k)=A at n;unfold Zof;rw[d];simp only[UQ];by_cases Q:lv[k]'(by omega)=true
   ·rw[Uc Q,Uc Q]
    by_cases q:Gc x=node
    ·rw[Uc q,Uc q,Bq]
     by_cases a:Gf x=node
     ·rw[Uc (UJ a),Uc a,Zk (by simp only[Uf,Ug];omega)]
     ·rw[Ue (by rw[Ul];exact a),Ue a,Um]
    ·rw[Ue q,Ue q,Bq,Ue (by decide),Um]
   ·rw[Ue Q,Ue Q,Um])
  (by simp only[Yk,E,Ui,Uj,Uq])
 rw[this,Bq];congr 1;rw[Ko,Ul,Xf];constructor
 ·intro D
  have g:0<(cat (Zof lv node) 0 (Zm b)).length:=by omega
  obtain⟨y,w⟩:=List.exists_mem_of_length_pos g;obtain⟨k,x,i,H⟩:=XZ.1 w;rw[Uw]at H;unfold Zof at H;split at H
  ·rename_i Q
   split at H
   ·rename_i q
    split at H
    ·rename_i a
     refine⟨k,x,i,?_,q,a⟩;cases e:lv[k]? with
     |none=>rw[e]at Q;cases Q
     |some z=>rw[e]at Q;exact Ka some Q
    ·cases H
   ·cases H
  ·cases H
 ·rintro⟨k,x,o,p,r,s⟩
  have:(k:Int)∈cat (Zof lv node) 0 (Zm b):=XZ.2 ⟨k,x,o,by
   rw[Uw];unfold Zof;rw[p,UQ,Uc rfl,Uc r,Uc s];exact Ut.2 rfl⟩
  have:=List.length_pos_of_mem this;omega
def inF (lv:List Bool) (m:List Int) (k:Nat) (x:Zn):List Int:=if(lv[k]?).getD false=true/\GH x=1/\Gc x∈m/\Gf x∈m then[(k:Int)]else[]
theorem Zwy (lv:List Bool) (m:List Int) (k:Nat) (x:Zn):(inF lv m k x).length<=1:=by
 unfold inF;split<;>simp
theorem ZoN (h:Xh b) (g:VOk b v) (p:lv.length=(Zm b).length) (m:List Int) (R:m.length<=1048576):YD (v,lv,()) (m,())=some (cat (inF lv m) 0 (Zm b)):=by
 have G:=Y2 h;have E:ZG.links (ZM.view ((v,lv,()):ZM))=Zm b:=g.links;have j:ZM.live ((v,lv,()):ZM)=lv:=rfl;have e:Len m:=by unfold Len;omega
 unfold YD;exact Xx (l:=Zm b) (ρ:=List Int) (inF lv m) [] (step:=λu=>Yn (v,lv,()) (m,()) u.1 u.2.1) (good:=cat (inF lv m) 0 (Zm b))
  (λk x i o=>by
   have H:lv[k]?=some (lv[k]'(by omega)):=Ua _;have n:=VJ (f:=inF lv m) (c:=1) (l:=(Zm b).take k) (m:=0) (λk x _=>Zwy lv m k x);rw[Uo]at n;simp only[Yn,E,j,show(k:Int)<((Zm b).length:Int)from by omega,Uk,Zv,i,H,Bq,ZaX,Uq,Xd (show k<=1048576 by omega),ZeX e];generalize cat (inF lv m) 0 ((Zm b).take k)=A at n;unfold inF;rw[H];simp only[UQ];by_cases Q:lv[k]'(by omega)=true
   ·rw[Uc Q]
    by_cases q:GH x=1
    ·rw[Uc q]
     by_cases a:Gc x∈m
     ·rw[Uc (UJ a),Bq]
      by_cases d:Gf x∈m
      ·rw[Uc (UJ d),Uc ⟨Q,q,a,d⟩,Zk (by simp only[Uf,Ug];omega)]
      ·rw[Ue (by rw[Ul];exact d),Ue (λz=>d z.2.2.2),Um]
     ·rw[Ue (by rw[Ul];exact a),Bq,Ue (by decide),Ue (λz=>a z.2.2.1),Um]
    ·rw[Ue q,Bq,Ue (by decide),Ue (λz=>q z.2.1),Um]
   ·rw[Ue Q,Ue (λz=>Q z.1),Um])
  (by simp only[Yn,E,Ui,Uj,Uq])
theorem ZnR {L:List Zn} {lv:List Bool} {m:List Int}:∀n,n<=L.length->XU (ZlV lv m) 0 (L.take n) (-1)=((cat (inF lv m) 0 (L.take n)).getLast?).getD (-1)
 |0,_=>by rw[Ki];rfl
 |n+1,X=>by
  have l:n<L.length:=by omega
  have h:L[n]?=some (L[n]'l):=Ua l;generalize L[n]'l=x at h;rw[Zcq h,XF h,Zi8,ZnR n (by omega)];have t:(L.take n).length=n:=by rw[Uo];omega
  show ZlV lv m n x _=((cat (inF lv m) 0 (L.take n)++(inF lv m (0+(L.take n).length) x++[])).getLast?).getD (-1);rw[t,Uw,Um];unfold ZlV inF;split
  ·rw[List.getLast?_append]
   first|done|rfl
  ·rw[Um]
def ZzL (N:Nat) (L:List Zn) (lv:List Bool) (u:Int) (r:List Bool):Prop:=r.length=N/\∀(a:Nat) (c:Bool),r[a]?=some c->(c=true<->RR L lv u (a:Int))
theorem ZmR (h:Xh b) (t:VOk b v) (br:List Int):YM (Zdb (v,XG b br,())) (ZbO (QU b) (Zm b) (XG b br) (QU b:Int)):=by
 have h6:=Y2 h;have hn:=ZfZ h;have en:=nN b;have D:(XG b br).length=(Zm b).length:=Qo _ _;have C:=Zhu h;generalize hN:QU b=N at *;generalize d2:XG b br=lv at *;unfold Zdb;rw[show YP (ZM.view ((v,lv,()):ZM))=some (N:Int)from by rw[<-hN];exact Zqs h t,Bq];refine YM.loop (λs=>(0<=s.2.1/\s.2.1<=(N:Int))/\(s.1.length:Int)=s.2.1/\∀(i:Nat) (r:List Bool),s.1[i]?=some r->ZzL N (Zm b) lv (i:Int) r) (λs=>((N:Int)-s.2.1).toNat) ⟨⟨U7 _,by dsimp only;omega⟩,rfl,λi r hr=>by simp at hr⟩ ?_;rintro⟨R,k,⟨⟩⟩ ⟨⟨k0,k1⟩,k2,k3⟩;dsimp only at k0 k1 k2 k3;show YM (Zbs ((v,lv,()):ZM) (N:Int) R k) _;unfold Zbs;have ek:Wq (k+1)=k+1:=QR;refine YM.ite (λhk=>?_) (λhk=>?_)
 ·obtain⟨r,e,a6,a7⟩:=Zu4 (g:=((v,lv,()):ZM)) (nodes:=[k]) (N:=N) (by show _=2*((ZG.ZB v).length:Int);rw[t.ZB];omega) (by omega) (by show InN _ (ZG.links v);rw[t.links];exact C) (by show(ZG.links v).length<=6000;rw[t.links];exact h6) (by show lv.length=(ZG.links v).length;rw[t.links];exact D) (λa n=>by rw[Ut.1 n];omega) (by simp)
  have a8:ZzL N (Zm b) lv k r:=⟨a6,λa c X=>by
   have:=a7 a c X;rw[show ZG.links (ZM.view ((v,lv,()):ZM))=Zm b from t.links] at this;rw[this];have e2:(λa=>a∈[k])=(λa:Int=>a=k):=funext λa=>propext Ut;rw[e2]⟩
  rw[e,Bq,ek];refine .guard (by simp only[Uf,Ug];omega) (.ret ⟨⟨⟨by dsimp only;omega,by dsimp only;omega⟩,by dsimp only;rw[Uh];simp only[Uf,Ug];omega,λi r' H=>?_⟩,by dsimp only;omega⟩);dsimp only at H;by_cases K:i<R.length
  ·rw[Uy K]at H
   exact k3 i r' H
  ·rw[UY (by omega)]at H
   have a2:i-R.length=0:=by
    have:=(Ub.1 H).1;simp only[Uf,Ug]at this;omega
   rw[a2]at H;injection H with H
   rw[<-H,show(i:Int)=k by omega];exact a8
 refine .guard (by omega) (.guard (U7 _) (.guard (by omega) (.guard (by omega) ?_)));have d1:R.length=N:=by omega
 have row:∀u:Int,0<=u->u<(N:Int)->∃r,atI R u=some r/\R[u.toNat]?=some r/\ZzL N (Zm b) lv u r:=λu u0 u1=>by
  have Z:R[u.toNat]?=some (R[u.toNat]'(by omega)):=Ua _;refine⟨_,Qt u0 Z,Z,?_⟩;have:=k3 u.toNat _ Z;rw[show(u.toNat:Int)=u by omega]at this;exact this
 refine YM.loop (λs=>(0<=s.2.1/\s.2.1<=(N:Int)/\(s.1.length:Int)<=s.2.1)/\ZbO N (Zm b) lv s.2.1 s.1/\s.2.2.1=R/\s.2.2.2.1.length=N/\Zmh (Zm b) lv s.2.1 s.2.2.2.1) (λs=>((N:Int)-s.2.1).toNat)
  ⟨⟨U7 _,by dsimp only;omega,by dsimp only[List.length_nil];omega⟩,(by show ∀u:Int,0<=u->u<0->¬NT (Zm b) lv u;intro u h0 d;omega),rfl,by simp,λa n=>by grind⟩ ?_
 rintro⟨out,u,l0,l1,⟨⟩⟩ ⟨⟨o,i1,i2⟩,B,i4,O,F⟩;dsimp only at o i1 i2 B i4 O F;subst i4;show YM (Zbr ((v,lv,()):ZM) (N:Int) out u l0 l1) _;unfold Zbr;have Y:Wq (u+1)=u+1:=QR;refine YM.ite (λhu=>?_) (λhu=>.ret (show ZbO N (Zm b) lv (N:Int) out from by rw[show(N:Int)=u by omega];exact B));refine .at o (by omega) λx hx I=>?_;refine YM.ite (λA=>?_) (λ_=>?_)
 ·rw[Y]
  refine .ret ⟨⟨⟨by dsimp only;omega,by dsimp only;omega,by dsimp only;omega⟩,B.skip λe E=>?_,rfl,O,F.mono⟩,by dsimp only;omega⟩;rw[A]at I;obtain⟨w,w1,w2,w3⟩:=F u.toNat I;rw[show(u.toNat:Int)=u by omega]at w2 w3;subst e;exact B w w1.1 w1.2 (ZwR w2 w3)
 obtain⟨ru,b8,b9,d5,d0⟩:=row u o hu;refine YM.loop (λs=>(0<=s.2.1/\s.2.1<=(N:Int)/\(s.1.length:Int)<=s.2.1)/\ZcR (λc:Int=>c) s.1/\s.2.2.1=l0/\∀c,c∈s.1<->((0<=c/\c<s.2.1)/\RR (Zm b) lv u c/\RR (Zm b) lv c u)) (λs=>((N:Int)-s.2.1).toNat)
  ⟨⟨U7 _,by dsimp only;omega,by dsimp only[List.length_nil];omega⟩,(by show ZcR (λc:Int=>c) [];exact List.Pairwise.nil),rfl,λc=>⟨λq=>(by cases q),λq=>by grind⟩⟩ ?_
 rintro⟨m,i,L,⟨⟩⟩ ⟨⟨j0,j1,j2⟩,G,j4,J⟩;dsimp only at j0 j1 j2 G j4 J;subst j4;show YM (Zbq ((v,lv,()):ZM) (N:Int) out u l1 m i L) _;unfold Zbq;have ei:Wq (i+1)=i+1:=QR;have es:List.set L (Int.toNat u) ru=L:=Zog b9;refine YM.ite (λK=>?_) (λK=>?_)
 ·have a3:(i.toNat:Int)=i:=by omega
  obtain⟨ri,b5,b6,d4,b7⟩:=row i j0 K;have S:List.set L (Int.toNat i) ri=L:=Zog b6;have skip:(¬(RR (Zm b) lv u i/\RR (Zm b) lv i u))->∀c,c∈m<->((0<=c/\c<i+1)/\RR (Zm b) lv u c/\RR (Zm b) lv c u):=λa5 c=>by
   rw[J c];constructor
   ·rintro⟨d,l⟩;exact⟨⟨d.1,by omega⟩,l⟩
   ·rintro⟨d,l⟩
    refine⟨⟨d.1,?_⟩,l⟩;by_cases e:c=i
    ·subst e;exact absurd l a5
    ·omega
  rw[b8,Bq,es,ei];refine .at j0 (by omega) λx hx I=>?_;have a0:=d0 i.toNat x I;rw[a3]at a0;refine YM.ite (λA=>?_) (λa9=>?_)
  ·rw[b5,Bq,Bq,S]
   refine .at o (by omega) λy hy b2=>?_;have P:=b7 u.toNat y b2;rw[show(u.toNat:Int)=u by omega]at P;refine YM.ite (λb4=>?_) (λb3=>?_)
   ·have b0:=a0.1 A
    have b1:=P.1 b4;refine .guard (by simp only[Uf,Ug];omega) (.ret ⟨⟨⟨by dsimp only;omega,by dsimp only;omega,by dsimp only;rw[Uh];simp only[Uf,Ug];omega⟩,?_,rfl,λc=>?_⟩,by dsimp only;omega⟩)
    ·show ZcR (λc:Int=>c) (m++[i])
     refine List.pairwise_append.2 ⟨G,List.pairwise_singleton ..,λa n c X=>?_⟩;rw[Ut.1 X];exact((J a).1 n).1.2
    ·dsimp only
     rw[Uu,Ut,J c];constructor
     ·rintro(⟨d,l⟩|rfl)
      ·exact⟨⟨d.1,by omega⟩,l⟩
      ·exact⟨⟨j0,by omega⟩,b0,b1⟩
     ·rintro⟨d,l⟩
      by_cases e:c=i
      ·exact .inr e
      ·exact .inl ⟨⟨d.1,by omega⟩,l⟩
   ·exact .ret ⟨⟨⟨by dsimp only;omega,by dsimp only;omega,by dsimp only;omega⟩,G,rfl,skip λq=>b3 (P.2 q.2)⟩,by dsimp only;omega⟩
  ·exact .ret ⟨⟨⟨by dsimp only;omega,by dsimp only;omega,by dsimp only;omega⟩,G,rfl,skip λq=>a9 (a0.2 q.1)⟩,by dsimp only;omega⟩
 ·have a4:i=(N:Int):=by omega
  have V:Zvm N (Zm b) lv u m:=⟨λc=>by rw[J c,a4],G⟩;have W:=V.two C ⟨o,hu⟩;have d3:(m.length:Int)<=(N:Int):=by omega
  have M:∀Q:((List Int×Int×List (List Bool)×Unit)⊕((List (List Int)×Int×List (List Bool)×List Bool×Unit)⊕((List (List Bool)×Int×Unit)⊕List (List Int))))->Prop,(∀p:List Bool,p.length=N->Zmh (Zm b) lv (u+1) p->Q (.inr (.inl (out++[m],u+1,L,p,()))))->YM (Zt (λs=>Vh out u m L s.1 s.2.1) ((0:Int),l1,())) Q:=λQ hQ=>by
   refine YM.loop (λs=>0<=s.1/\s.1<=(m.length:Int)/\s.2.1.length=N/\Zmh (Zm b) lv (u+1) s.2.1) (λs=>((m.length:Int)-s.1).toNat) ⟨U7 _,by dsimp only;omega,O,F.mono⟩ ?_;rintro⟨j,p,⟨⟩⟩ ⟨g0,g1,T,U⟩;dsimp only at g0 g1 T U;show YM (Vh out u m L j p) _;unfold Vh;have ej:Wq (j+1)=j+1:=QR;refine YM.ite (λhj=>?_) (λhj=>?_)
   ·refine .at g0 hj λx hx I=>?_
    have f:=(J x).1 hx;refine .at f.1.1 (by omega) λy _ _=>?_;rw[ej];refine .ret ⟨⟨by dsimp only;omega,by dsimp only;omega,by dsimp only;rw[UZ];exact T,λa n=>?_⟩,by dsimp only;omega⟩;dsimp only at n;rw[UX]at n;split at n
    ·rename_i e
     rw[show(a:Int)=x by have:=f.1.1;omega];exact⟨u,⟨o,by omega⟩,f.2.1,f.2.2⟩
    ·exact U a n
   ·rw[Y]
    exact .guard (by simp only[Uf,Ug];omega) (.ret (show Q _ from hQ p T U))
  refine YM.ite (λd=>?_) (λd=>?_)
  ·rw[Zrs h t D u,Bq]
   refine YM.ite (λq=>?_) (λq=>?_)
   ·exact M _ λp q1 q2=>⟨⟨⟨by dsimp only;omega,by dsimp only;omega,by dsimp only;rw[Uh];simp only[Uf,Ug];omega⟩,B.add o (W.2 (.inr ((Xf _).1 q))) V,rfl,q1,q2⟩,by dsimp only;omega⟩
   ·rw[Y]
    refine .ret ⟨⟨⟨by dsimp only;omega,by dsimp only;omega,by dsimp only;omega⟩,B.skip λ_ E=>?_,rfl,O,F.mono⟩,by dsimp only;omega⟩;rcases W.1 E with z|z
    ·omega
    ·exact q (ZR z)
  ·exact M _ λp q1 q2=>⟨⟨⟨by dsimp only;omega,by dsimp only;omega,by dsimp only;rw[Uh];simp only[Uf,Ug];omega⟩,B.add o (W.2 (.inl (by omega))) V,rfl,q1,q2⟩,by dsimp only;omega⟩
variable {x:Int}
theorem ZAw:x∈srt l<->x∈l:=List.mem_mergeSort
theorem ZnY {n:Nat} (H:k<n:=by omega):(ZaB n br)[k]?=some (!decide ((k:Int)∈br)):=by
 unfold ZaB;rw[UL,Kf H];rfl
theorem ZkA {x:Bool} {y:Int}:y∈Zkz k x<->x=false/\y=(k:Int):=by
 unfold Zkz;cases x<;>simp
theorem Zqp:x∈dead lv<->∃k:Nat,lv[k]?=some false/\x=(k:Int):=by
 unfold dead;rw[XZ];constructor
 ·rintro⟨k,y,d,f⟩
  obtain⟨rfl,rfl⟩:=ZkA.1 f;exact⟨k,d,by omega⟩
 ·rintro⟨k,d,rfl⟩
  exact⟨k,false,d,ZkA.2 ⟨rfl,by omega⟩⟩
theorem Zp0:∀(l:List Bool) (m:Nat),ZcR (λc:Int=>c) (cat Zkz m l)
 |[],_=>List.Pairwise.nil
 |x::l,m=>by
  show List.Pairwise _ (Zkz m x++cat Zkz (m+1) l);refine List.pairwise_append.2 ⟨?_,Zp0 l (m+1),λa n c q=>?_⟩
  ·unfold Zkz
   cases x<;>simp
  ·obtain⟨_,rfl⟩:=ZkA.1 n
   obtain⟨k,y,_,f⟩:=XZ.1 q;obtain⟨_,rfl⟩:=ZkA.1 f;show(m:Int)<((m+1+k:Nat):Int);omega
theorem ZCa (h:ZcR (λc:Int=>c) l):Inc l:=λk x y a i=>by
 obtain⟨d,e1⟩:=Ub.1 a;obtain⟨H,f⟩:=Ub.1 i;have:=List.pairwise_iff_getElem.1 h k (k+1) d H (by omega);rw[e1,f]at this;exact this
variable (n:Nat) (br:List Int)
theorem Zyf:Zmz (n:Int) (dead (ZaB n br)):=⟨λx l=>by
 obtain ⟨k,H,rfl⟩:=Zqp.1 l;have:=(Ub.1 H).1;rw[Qo] at this;omega,ZCa (Zp0 _ 0)⟩
theorem Zz6:ZaB n (dead (ZaB n br))=ZaB n br:=by
 apply UI;intro k;by_cases H:k<n
 ·rw[ZnY H,ZnY H]
  congr 2;rw[Kx,Zqp];constructor
  ·rintro⟨j,b,e⟩
   have:j=k:=by omega
   subst this;rw[ZnY H]at b;injection b with b
   simpa using b
  ·intro h
   exact⟨k,by rw[ZnY H];simp[h],rfl⟩
 ·rw[Uv (by rw[Qo];omega),Uv (by rw[Qo];omega)]
theorem Zye:(dead (ZaB n br)).length<=n:=by
 have:=VJ (f:=Zkz) (c:=1) (l:=ZaB n br) (m:=0) (λk x _=>Zrd k x);rw[Qo]at this;unfold dead;omega
theorem ZAT (h:l.Nodup):ZcR (λc:Int=>c) (srt l):=by
 have H:(srt l).Pairwise (λa c=>a<=c):=by
  have:=List.pairwise_mergeSort (le:=λx y:Int=>decide (x<=y)) (λa c d H f=>by simp only[Ul]at *;omega) (λa c=>by simp only[KD,Ul];omega) l;exact this.imp λh=>by simpa using h
 have f:(srt l).Pairwise (λa c=>a≠c):=((List.mergeSort_perm l _).nodup_iff.2 h);exact (H.and f).imp λ{a c} ⟨g,i⟩=>(by
  have:a<c:=by omega
  exact this)
variable {br:List Int}
theorem ZAs (h:Xh b) (n:∃v,NT (Zm b) (XG b br) v):∃m,Zge (QU b) (Zm b) (XG b br) m:=by
 have G:=Y2 h;have X:=ZfZ h;obtain⟨r,_,o⟩:=Zj4 (lv:=XG b br) (by omega) (Zhu h) G (Qo _ _);cases r with
 |nil =>
  obtain⟨v,a⟩:=n;have B:=a.inn (Zhu h);exact absurd a (o v B.1 B.2)
 |cons m t=>exact⟨m,o⟩
theorem Zkr (h:Xh b) {n:Nat} (H:∃v,NT (Zm b) (XG b br) v):∃k:Nat,Zq9 b (n+1) br=Zq9 b n (br++[(k:Int)])/\k<(Zm b).length/\(XG b br)[k]?=some true/\ct (XG b (br++[(k:Int)]))+1=ct (XG b br):=by
 obtain⟨m,R⟩:=ZAs h H;obtain⟨k,k1,d,Q,_,K⟩:=Zqr h R;refine⟨k,?_,d,Q,K⟩;simp only[Zq9,ZR H,Zp5 R,k1]
theorem Zno {n:Nat} (h:¬∃v,NT (Zm b) (XG b br) v):Zq9 b n br=br:=by
 cases n with
 |zero=>rfl
 |succ n=>simp only[Zq9,ZT h]
theorem ZvD {b:Zc} (h:Xh b):∀(n:Nat) (br:List Int),br.Nodup->(∀x∈br,0<=x/\x<((Zm b).length:Int))->(Zq9 b n br).Nodup/\∀x∈Zq9 b n br,0<=x/\x<((Zm b).length:Int)
 |0,br,d,f=>⟨d,f⟩
 |n+1,br,d,f=>by
  by_cases H:∃v,NT (Zm b) (XG b br) v
  ·obtain⟨k,e,K,Q,_⟩:=Zkr h (n:=n) H
   rw[e];have j:(k:Int) ∉ br:=λq=>by
    rw[ZnY K]at Q;injection Q with Q
    simp[q]at Q
   refine ZvD h n _ ?_ λx l=>?_
   ·rw[UW]
    exact ⟨d,by simp,λa g c i=>by
     rw[Ut.1 i];exact λe=>j (e▸g)⟩
   ·rcases Uu.1 l with l|l
    ·exact f x l
    ·rw[Ut.1 l]
     omega
  ·rw[Zno H]
   exact⟨d,f⟩
theorem Ztn {b:Zc} (h:Xh b):∀(n:Nat) (br:List Int),ct (XG b br)<=n->¬∃v,NT (Zm b) (XG b (Zq9 b n br)) v
 |0,br,q=>λH=>by
  obtain⟨k,_,_,_,K⟩:=Zkr h (n:=0) H;have K:ct (XG b (br++[(k:Int)]))+1=ct (XG b br):=K;omega
 |n+1,br,q=>by
  by_cases H:∃v,NT (Zm b) (XG b br) v
  ·obtain⟨k,e,_,_,K⟩:=Zkr h (n:=n) H
   rw[e];exact Ztn h n _ (by omega)
  ·rw[Zno H]
   exact H
theorem ZB4 (b:Zc) (br:List Int):ct (XG b br)<=(Zm b).length:=by
 have:=ZB3 (XG b br)
 rwa [show(XG b br).length=(Zm b).length from Qo _ _]at this
theorem Zy8 (h:Xh b):srt (ZjO b)=dead (XG b (ZjO b)):=by
 obtain⟨d,f⟩:=ZvD h (Zm b).length [] KM (λx a=>by cases a);have d:(ZjO b).Nodup:=d;have f:∀x∈ZjO b,0<=x/\x<((Zm b).length:Int):=f;refine key_eq (ZAT d) (Zp0 _ 0) λx=>?_;rw[ZAw];show _<->x∈dead (XG b (ZjO b));rw[Zqp];constructor
 ·intro a
  have:=f x a;refine⟨x.toNat,?_,by omega⟩;rw[ZnY,show(x.toNat:Int)=x by omega];simp[a]
 ·rintro⟨k,H,rfl⟩
  have l:=(Ub.1 H).1;rw[Qo]at l;rw[ZnY l]at H;injection H with H
  simpa using H
noncomputable def ZqW (b:Zc):List Int:=dead (XG b (ZjO b))
theorem Zx5 (h:Xh b):(ZaC b (ZqW b)).2=true:=by
 refine Zpk h λv a=>?_;unfold ZqW at a;rw[show XG b (dead (XG b (ZjO b)))=XG b (ZjO b)from Zz6 _ _]at a;exact Ztn h _ [] (ZB4 b []) ⟨v,a⟩
theorem Zpm (h:Xh b) (a:VOk b v) (br:List Int):ZbA (v,XG b br,())=some (!(ZaC b br).2):=by
 unfold ZbA;rw[Znb h a br];rfl
theorem ZAS (h:l.length<=1048576:=by omega):ZAR l=some (srt l):=by
 unfold ZAR;rw[QP]
theorem ZoM (h:Xh b) (g:VOk b v):∀(n:Nat) (br:List Int),ct (XG b br)<=n->br.length+n<=12000->Zt (λs=>Y1 v s.1 s.2.1) (br,XG b br,())=some (.inr (.inr (srt (Zq9 b n br)))):=by
 intro n;have N:=Y2 h;have X:=ZfZ h;have p:∀(n:Nat) (br:List Int),br.length<=12000->(¬∃u,NT (Zm b) (XG b br) u)->Zt (λs=>Y1 v s.1 s.2.1) (br,XG b br,())=some (.inr (.inr (srt (Zq9 b n br)))):=λn br C o=>by
  have i:(ZaC b br).2=true:=Zpk h λu d=>o ⟨u,d⟩;refine YF ?_;show Y1 v br (XG b br)=_;unfold Y1;rw[Zpm h g,Bq,i,Ue (by decide),ZAS,Bq,Zno o]
 induction n with
 |zero =>
  intro br G C;refine p 0 br (by omega) λa=>?_;obtain⟨k,_,_,_,K⟩:=Zkr h (n:=0) a;have K:ct (XG b (br++[(k:Int)]))+1=ct (XG b br):=K;omega
 |succ n J =>
  intro br G C;by_cases a:∃u,NT (Zm b) (XG b br) u;rotate_left
  ·exact p (n+1) br (by omega) a
  have i:(ZaC b br).2=false:=by
   cases e:(ZaC b br).2 with
   |false=>rfl
   |true =>
    obtain⟨u,d⟩:=a;exact absurd d (ZuW h e u)
  obtain⟨r,e1,z⟩:=ZmR h g br;cases r with
  |nil =>
   obtain⟨u,d⟩:=a;have B:=d.inn (Zhu h);exact absurd d (z u B.1 B.2)
  |cons m t =>
   have R:Zge (QU b) (Zm b) (XG b br) m:=z;obtain⟨k,k1,O,Q,M,K⟩:=Zqr h R;have q:m.length<=1048576:=by
    obtain⟨w,w1,w2,_,w4⟩:=id R;have:=(w4.scc (Zhu h) w1 w2).len;omega
   have B:=ZnR (L:=Zm b) (lv:=XG b br) (m:=m) (Zm b).length (UE _);rw[Ur]at B;have H:((cat (inF (XG b br) m) 0 (Zm b)).getLast?).getD (-1)=(k:Int):=B.symm.trans k1;have j:=VJ (f:=inF (XG b br) m) (c:=1) (l:=Zm b) (m:=0) (λk x _=>Zwy _ m k x);have E:=ZoN h g (lv:=XG b br) (Qo _ _) m q;generalize cat (inF (XG b br) m) 0 (Zm b)=c at H j E;have A:c[c.length-1]?=some (k:Int):=by
    rw[<-List.getLast?_eq_getElem?];cases e:c.getLast? with
    |none =>
     rw[e]at H;have:(-1:Int)=(k:Int):=H;omega
    |some y =>
     rw[e]at H;have:y=(k:Int):=H;rw[this]
   have I:=(Ub.1 A).1;have D:atI c (Wq ((c.length:Int)-1))=some (k:Int):=by
    rw[QR];exact Qt (by omega) (by rw[show((c.length:Int)-1).toNat=c.length-1 by omega];exact A)
   have F:Zq9 b (n+1) br=Zq9 b n (br++[(k:Int)]):=by
    simp only[Zq9,ZR a,Zp5 R,k1]
   rw[F];refine(YW (v':=(br++[(k:Int)],XG b (br++[(k:Int)]),())) ?_).trans (J (br++[(k:Int)]) (by omega) (by rw[Uh];simp only[Uf,Ug];omega));show Y1 v br (XG b br)=_;unfold Y1;rw[Zpm h g,Bq,i,Uc (by decide),e1,Bq,show atI (m::t) (0:Int)=some m from rfl,Bq,E,Bq,D,Bq,Zv,Q,Bq,Zk (by simp only[Uf,Ug];omega),UG,M]
def upTo (n i:Nat):List Bool:=(List.range n).map λk=>decide (k<i)
theorem Zzc (i:Nat):(upTo n i).length=n:=by simp[upTo]
theorem Zzd {n:Nat} (l:i<n:=by omega):List.set (upTo n i) i true=upTo n (i+1):=by
 apply List.ext_getElem
 ·simp[upTo]
 ·intro j d f
  simp only[upTo,List.getElem_set,List.getElem_map,List.getElem_range];split
  ·symm
   rw[Ul];omega
  ·rw[Kx]
   omega
theorem ZxG:upTo n 0=List.replicate n false:=by
 apply List.ext_getElem
 ·simp[upTo]
 ·intro j d f
  simp[upTo]
theorem ZxF:upTo n n=ZaB n []:=by
 unfold upTo ZaB;refine KK λk H=>?_;have:=Ky.1 H;simp[this]
theorem ZkN (h:Xh b) (a:VOk b v):VW v=some (ZqW b):=by
 have G:=Y2 h;have n:=ZoM h a (Zm b).length [] (ZB4 b []) (by simp only[Ug];omega);have key:YM (Zt (λs=>Vg v s.1 s.2.1) ((0:Int),List.replicate (Int.toNat ((Zm b).length:Int)) false,())) (λr=>r=srt (ZjO b)):=by
  refine YM.loop (λs=>0<=s.1/\s.1<=((Zm b).length:Int)/\s.2.1=upTo (Zm b).length s.1.toNat) (λs=>(((Zm b).length:Int)-s.1).toNat) ⟨U7 _,by dsimp only;omega,by dsimp only;rw[UG];exact(ZxG _).symm⟩ ?_;rintro⟨i,l,⟨⟩⟩ ⟨I,i1,p⟩;dsimp only at I i1 p;subst p;show YM (Vg v i (upTo (Zm b).length i.toNat)) _;unfold Vg;rw[a.links,UT,UG];refine YM.ite (λH=>?_) (λH=>?_)
  ·refine .at I (by rw[Zzc];omega) λx _ _=>?_
   rw[QR];refine .ret ⟨⟨by dsimp only;omega,by dsimp only;omega,?_⟩,by dsimp only;omega⟩;dsimp only;rw[Zzd,show(i+1).toNat=i.toNat+1 by omega]
  ·have z:i.toNat=(Zm b).length:=by omega
   rw[z,ZxF];have E:X8 v (XG b []) 0=some (.inr (.inr (srt (ZjO b)))):=by
    unfold X8;rw[QQ];exact n
   have e1:Zt (λs=>X8 v (XG b []) s.1) ((0:Int),())=some (.inr (srt (ZjO b))):=YF E;show YM (Zt (λs=>X8 v (XG b []) s.1) ((0:Int),())) _;rw[e1];exact .ret (show srt (ZjO b)=srt (ZjO b)from rfl)
 obtain⟨r,e,rfl⟩:=key;unfold VW;rw[a.links,Ra,Zk (U7 _),Ra,Ra,e,Zy8 h];rfl
theorem ZqH (h:Xh b):ZeA b=some (ZqW b):=ZqG h
section
variable {b:Zc} {c:ZA} {live:List Bool} {l:List Zj} {dirty:List Int} {t0:Zr} {n:Nat}
end
theorem ZzY (b:Zc) (c:ZA) (br:List Int) (l:List Zj) (d:sm Xi b) (f:sm Qf c) (r:br.length<=1048576) (e:l.length<=1048576) :
  (∃code:Int,(code=1\/code=2\/code=7)/\VL b c br l none=some (none,[],code)/\Zfx b c br l=some ([],code)/\¬Znh b c br l/\(Pre b c br l->code=7))\/
  (∃v,Znh b c br l/\VOk b v/\VL b c br l none=some (some (v,XG b br,()),(ZaC b br).1,0)/\Zfx b c br l=some ((ZaC b br).1,0)):=by
 unfold VL Zfx;rw[Zeh b d,ZbX b d,Bq,Bq];by_cases j:ZjL b;rotate_left
 ·rw[Ue (λq=>j ((Xf _).1 q)),Ue (λq=>j ((Xf _).1 q))]
  exact .inl ⟨1,.inl rfl,rfl,rfl,λq=>j q.blk.ok,λq=>absurd q.blk.ok j⟩
 have h:Xh b:=⟨j,d⟩;rw[Uc (ZR j),Uc (ZR j),Zio c f,ZfC c,Bq,Bq];by_cases y:Vd c;rotate_left
 ·rw[Ue (λq=>y ((Xf _).1 q)),Ue (λq=>y ((Xf _).1 q))]
  exact .inl ⟨1,.inl rfl,rfl,rfl,λq=>y q.cor,λq=>absurd q.cor y⟩
 obtain⟨v,p,a⟩:=ZxM h;rw[Uc (ZR y),Uc (ZR y),p,Bq,Uc (by rfl),Zpq h r,ZnT h a r,Bq,Bq];by_cases H:Zmz ((Zm b).length:Int) br;rotate_left
 ·rw[Ue (λq=>H ((Xf _).1 q)),Y7 H,Ue (by decide)]
  exact .inl ⟨2,.inr (.inl rfl),rfl,rfl,λq=>H q.ris,λq=>absurd q.ris H⟩
 rw[Uc (ZR H),Xr H,Uc rfl,ZgQ h v a.ZB l e,Zk4 h l e,Bq,Bq];by_cases s:ZeM l (Zc7 (2*((ZB (K3 b)).length:Int)) l);rotate_left
 ·rw[Ue (λq=>s ((Xf _).1 q)),Ue (λq=>s ((Xf _).1 q))]
  exact .inl ⟨2,.inr (.inl rfl),rfl,rfl,λq=>s q.src,λq=>absurd q.src s⟩
 rw[Uc (ZR s),Uc (ZR s),ZlL h a r H,Bq,Znb h a br,ZBw h r H,Bq,Bq];by_cases o:(ZaC b br).2=true;rotate_left
 ·rw[Ue o,Ue o]
  exact .inl ⟨7,.inr (.inr rfl),rfl,rfl,λq=>o q.ord,λ_=>rfl⟩
 rw[Uc o,Uc o];exact .inr ⟨v,⟨h,y,H,s,o⟩,a,rfl,rfl⟩
section
variable {b:Zc} {c:ZA} {br:List Int} {l:List Zj} {v:ZG}
theorem hst (h:Znh b c br l) (a:VOk b v) (t:Zr) (u:Int) (r:Zji (QU b) t):StB (ZgY b c (XG b br) l t u):=ZuU h a r _ _
variable {k:Nat}
theorem set_self {α:Type} {l:List α} {x:α} (h:l[k]?=some x):l.set k x=l:=by
 apply UI;grind
variable {t:Zr} {r:Bool×Zj}
theorem ZyR {n:Nat} (j:Zji n t) (H:k<n) (T:Zfq t (k:Int)=(false,ZbM,ZbM)) (F:ZrS r=(false,ZbM,ZbM)):Zkk t k r=t:=by
 obtain⟨x,a,s,l,h,q⟩:=Zs8 j H;unfold Zfq at T;rw[l,h,q]at T;injection T with d T
 injection T with f g
 dsimp only[Option.getD_some]at d f g;subst d f g;unfold ZrS at F;injection F with G F
 injection F with e i
 rw[Zv]at l h q;obtain⟨a,b,c,⟨⟩⟩:=t;unfold Zkk;rw[G,e,i];show(List.set a k false,List.set b k ZbM,List.set c k ZbM,())=(a,b,c,());rw[set_self l,set_self h,set_self q]
theorem ZwO {live:List Bool} {u:Int} (h:(newV b c live l t u).1=false):ZrS (newV b c live l t u)=(false,ZbM,ZbM):=by
 unfold newV at h ⊢;cases e:ZgY b c live l t u with
 |none=>rfl
 |some q=>rw[e]at h;cases h
theorem ZzR (h:r.1=true):ZxW r = !tr (ZaH (GR r.2)):=by
 unfold ZxW;rw[h,KE]
theorem Zl1 (H:Znh b c br l) (o:VOk b v) (U:l.length<=1048576) {ord:List Int} (C:ord.length<=1000) {c0:List Bool} {c1 c2:List Zz} :
  ∀(r out:List Int) (k:Nat) (t:Zr),ord.drop k=r->k<=ord.length->Zmy (XG b br) (Zm b) out r->(∀u∈r,0<=u/\u<(QU b:Int))->Zji (QU b) t->(∀u:Int,u ∉ out->Zfq t u=(false,ZbM,ZbM))->
   Zt (λu=>Yh ((v,XG b br,()):ZM) c l ord u.1 u.2.1 u.2.2.1 u.2.2.2.1 u.2.2.2.2.1 u.2.2.2.2.2.1 u.2.2.2.2.2.2.1) ((k:Int),c0,c1,c2,Gd t,GL t,GF t,())=some ((Znc b c (XG b br) l r t).2,(Znc b c (XG b br) l r t).1)/\
   Zt (λu=>XA b c (Zm b) (XG b br) l ord u.1 u.2.1 u.2.2.1 u.2.2.2.1 u.2.2.2.2.1 u.2.2.2.2.2.1 u.2.2.2.2.2.2.1) ((k:Int),c0,c1,c2,Gd t,GL t,GF t,())=some ((Znc b c (XG b br) l r t).2,(Znc b c (XG b br) l r t).1)
 |[],out,k,t,F,S,p,X,d,T=>by
  have y:k=ord.length:=by
   have:=Ka List.length F;grind
  subst y;constructor
  ·refine YF ?_
   show Yh ((v,XG b br,()):ZM) c l ord (ord.length:Int) c0 c1 c2 (Gd t) (GL t) (GF t)=_;unfold Yh;rw[Ue (Ui _)];rfl
  ·refine YF ?_
   show XA b c (Zm b) (XG b br) l ord (ord.length:Int) c0 c1 c2 (Gd t) (GL t) (GF t)=_;unfold XA;rw[Ue (Ui _)];rfl
 |node::r,out,k,t,F,S,p,X,d,T=>by
  have h:=H.blk;have V:=ZfZ h;have m:(XG b br).length=(Zm b).length:=Qo _ _;have n:Len l:=by unfold Len;omega
  have A:k<ord.length:=by
   grind
  have e:ord[k]?=some node:=by
   have:=Ka (λz=>z[0]?) F;grind
  have D:ord.drop (k+1)=r:=by
   rw[<-List.tail_drop,F];rfl
  have P:=X node UK;obtain⟨j,rfl⟩:∃j:Nat,node=(j:Int):=⟨node.toNat,by omega⟩;have N:j<QU b:=by omega
  obtain⟨x,a,s,K,w,G⟩:=Zs8 d N;have e1:=Zrq h o H.cor m d n (ZCk H.src) (j:Int);have E:=Zr3 h o H.cor m d n (j:Int);rw[show ZzB (j:Int) (ZgY b c (XG b br) l t (j:Int))=newV b c (XG b br) l t (j:Int)from rfl]at e1 E;have i:=Zn2 (hst H o) d j (j:Int);have L:∀u:Int,u ∉ out++[(j:Int)]->Zfq (Zkk t j (newV b c (XG b br) l t (j:Int))) u=(false,ZbM,ZbM):=λu J=>by
   rw[Zl8 (λz=>J (Uu.2 (.inr (by grind))))];grind
  have I:=Zl1 H o U C (c0:=c0) (c1:=c1) (c2:=c2) r (out++[(j:Int)]) (k+1) (Zkk t j (newV b c (XG b br) l t (j:Int))) D A p.2 (λu J=>X u (UP _ J)) i L;have B:=ZwO (b:=b) (c:=c) (l:=l) (t:=t) (live:=XG b br) (u:=(j:Int));have f:(newV b c (XG b br) l t (j:Int)).1=false->Zkk t j (newV b c (XG b br) l t (j:Int))=t:=λq=>ZyR d N (T _ p.1.2.1) (B q);unfold Znc;rw[UG];generalize newV b c (XG b br) l t (j:Int)=R at *;by_cases Q:R.1=true
  ·rw[ZzR Q]
   by_cases g:ZaH (GR R.2)
   ·rw[ZR g]
    refine⟨(YW (v':=(((k+1:Nat):Int),c0,c1,c2,Gd (Zkk t j R),GL (Zkk t j R),GF (Zkk t j R),())) ?_).trans I.1,(YW (v':=(((k+1:Nat):Int),c0,c1,c2,Gd (Zkk t j R),GL (Zkk t j R),GF (Zkk t j R),())) ?_).trans I.2⟩
    ·show Yh ((v,XG b br,()):ZM) c l ord (k:Int) c0 c1 c2 (Gd t) (GL t) (GF t)=_
     unfold Yh;rw[QP,Zv,e,Bq];show(Qb _ c l t (j:Int)).bind _=_;rw[e1,Bq,Uc Q,show Jm R.2.2.1=some (tr (ZaH (GR R.2)))from Ja _,Bq,Uc (ZR g),K,w,G,Bq,Bq,Bq,Xd,UG];rfl
    ·show XA b c (Zm b) (XG b br) l ord (k:Int) c0 c1 c2 (Gd t) (GL t) (GF t)=_
     unfold XA;rw[QP,Zv,e,Bq];show(ZaO b c (Zm b) (XG b br) l t (j:Int)).bind _=_;rw[E,Bq,Uc Q,show Zcc R.2.2.1=some (tr (ZaH (GR R.2)))from Zhg _,Bq,Uc (ZR g),K,w,G,Bq,Bq,Bq,Xd,UG];unfold Zkk;rw[Q]
   ·rw[ZT g]
    refine⟨YF ?_,YF ?_⟩
    ·show Yh ((v,XG b br,()):ZM) c l ord (k:Int) c0 c1 c2 (Gd t) (GL t) (GF t)=_
     unfold Yh;rw[QP,Zv,e,Bq];show(Qb _ c l t (j:Int)).bind _=_;rw[e1,Bq,Uc Q,show Jm R.2.2.1=some (tr (ZaH (GR R.2)))from Ja _,Bq,Ue (λz=>g ((Xf _).1 z))];rfl
    ·show XA b c (Zm b) (XG b br) l ord (k:Int) c0 c1 c2 (Gd t) (GL t) (GF t)=_
     unfold XA;rw[QP,Zv,e,Bq];show(ZaO b c (Zm b) (XG b br) l t (j:Int)).bind _=_;rw[E,Bq,Uc Q,show Zcc R.2.2.1=some (tr (ZaH (GR R.2)))from Zhg _,Bq,Ue (λz=>g ((Xf _).1 z))];rfl
  ·have M:R.1=false:=by grind
   have O:ZxW R=false:=by
    unfold ZxW;grind
   rw[O];refine⟨(YW (v':=(((k+1:Nat):Int),c0,c1,c2,Gd (Zkk t j R),GL (Zkk t j R),GF (Zkk t j R),())) ?_).trans I.1,(YW (v':=(((k+1:Nat):Int),c0,c1,c2,Gd (Zkk t j R),GL (Zkk t j R),GF (Zkk t j R),())) ?_).trans I.2⟩
   ·show Yh ((v,XG b br,()):ZM) c l ord (k:Int) c0 c1 c2 (Gd t) (GL t) (GF t)=_
    unfold Yh;rw[QP,Zv,e,Bq];show(Qb _ c l t (j:Int)).bind _=_;rw[e1,Bq,Ue Q,K,w,G,Bq,Bq,Bq,Xd,UG];rfl
   ·show XA b c (Zm b) (XG b br) l ord (k:Int) c0 c1 c2 (Gd t) (GL t) (GF t)=_
    unfold XA;rw[QP,Zv,e,Bq];show(ZaO b c (Zm b) (XG b br) l t (j:Int)).bind _=_;rw[E,Bq,Ue Q,Xd,f M]
end
def ZuT (n:Nat):Zr:=(List.replicate n false,List.replicate n ZbM,List.replicate n ZbM,())
variable (n:Nat)
theorem ZkR:Zji n (ZuT n):=⟨UT,UT,UT,λs q=>by
 rw[List.eq_of_mem_replicate q];exact ZzD⟩
theorem Zt5 (u:Int):Zfq (ZuT n) u=(false,ZbM,ZbM):=by
 have g:∀{α:Type} (z:α),(atI (List.replicate n z) u).getD z=z:=λz=>by
  unfold atI;grind
 show(((atI (List.replicate n false) u).getD false,(atI (List.replicate n ZbM) u).getD ZbM,(atI (List.replicate n ZbM) u).getD ZbM):Row)=_;rw[g,g]
structure Is (b:Zc) (c:ZA) (br:List Int) (l:List Zj) (t:Zr):Prop where
 asked:Znh b c br l
 tb:Zji (QU b) t
 right:Right b c (XG b br) l t
 good:∀u:Int,0<=u->u<(QU b:Int)->Zus (Zfq t u)
theorem Is.unique {b:Zc} {c:ZA} {br:List Int} {l:List Zj} {t t':Zr} (h:Is b c br l t) (H:Is b c br l t'):t=t' :=
 ZrQ (ZwY h.asked.ord) h.tb H.tb h.right H.right
variable (b:Zc)
theorem ZAA (c:ZA) (br:List Int) (l:List Zj) (p:sm Xi b) (s:sm Qf c) (d:br.length<=1048576) (q:l.length<=1048576) :
  ∃r:Zr×Int,Qa b c br l=some r/\Zaq b c br l=some r/\
   ((r.2=0/\Is b c br l r.1)\/(r.1=noT/\(∀t,¬Is b c br l t)/\(r.2=3/\Znh b c br l\/(r.2=1\/r.2=2\/r.2=7)/\¬Znh b c br l/\(Pre b c br l->r.2=7)))):=by
 unfold Qa Zaq;rcases ZzY b c br l p s d q with⟨code,y,e1,f,E,m⟩|⟨v,H,e,e1,f⟩
 ·rw[e1,f,Bq,Bq,Ue (by grind),Ue (by grind)]
  exact⟨_,rfl,rfl,.inr ⟨rfl,λt z=>E z.asked,.inr ⟨y,E,m⟩⟩⟩
 ·have h:=H.blk
  have X:=ZfZ h;have A:=Zt9 b br;have k:=ZwY H.ord;have w:=YT h.ok.1.few;have x:=nN b;rw[e1,f,Bq,Uc rfl,Bq,Bq,Uc rfl];rw[Zdh h,Bq,Zgu _ _ (Y2 h) d,Bq];have Z:Qd ((v,XG b br,()):ZM) c l (ZaC b br).1=some ((Znc b c (XG b br) l (ZaC b br).1 (ZuT (QU b))).2,(Znc b c (XG b br) l (ZaC b br).1 (ZuT (QU b))).1):=by
   unfold Qd Zdo;rw[show YP (ZM.view ((v,XG b br,()):ZM))=some (QU b:Int)from Zqs h e,Bq];rw[Ra,Ra,Ra,Ra,Ra,Bq,UG];exact(Zl1 H e q (ord:=(ZaC b br).1) (by omega) (ZaC b br).1 [] 0 (ZuT (QU b)) rfl (UM _) k.ord k.inn (ZkR _) (λu _=>Zt5 _ u)).1
  have L:Zgx b c (Zm b) (XG b br) l (ZaC b br).1=some ((Znc b c (XG b br) l (ZaC b br).1 (ZuT (QU b))).2,(Znc b c (XG b br) l (ZaC b br).1 (ZuT (QU b))).1):=by
   unfold Zgx Zh8;rw[ZiM h,Bq];rw[Ra,Ra,Ra,Ra,Ra,Bq,UG];exact(Zl1 H e q (ord:=(ZaC b br).1) (by omega) (ZaC b br).1 [] 0 (ZuT (QU b)) rfl (UM _) k.ord k.inn (ZkR _) (λu _=>Zt5 _ u)).2
  rw[show Qd ((v,XG b br,()):ZM) c l (some ((v,XG b br,()):ZM),(ZaC b br).1,(0:Int)).snd.fst=_ from Z];rw[show Zgx b c (Zm b) (ZaB (Zm b).length br) l ((ZaC b br).1,(0:Int)).fst=_ from L];rw[Bq];have k1:=Zxh (b:=b) (c:=c) (live:=XG b br) (l:=l) (hst H e) (ZaC b br).1 [] (ZuT (QU b)) k.ord (λu a=>(k.inn u a).2) (ZkR _) (λu a=>by cases a) (λu a=>by cases a);have K:=λT=>ZrT (b:=b) (c:=c) (live:=XG b br) (l:=l) (T:=T) (hst H e) (ZaC b br).1 [] (ZuT (QU b)) k.ord (λu a=>(k.inn u a).2) (ZkR _) (λu a=>by cases a);have Q:(Znc b c (XG b br) l (ZaC b br).1 (ZuT (QU b))).1=false->(Znc b c (XG b br) l (ZaC b br).1 (ZuT (QU b))).2=noT:=runP_bad _ _;generalize Znc b c (XG b br) l (ZaC b br).1 (ZuT (QU b))=R at *;cases o:R.1 with
  |true =>
   obtain⟨n,G⟩:=k1 o;exact⟨_,rfl,rfl,.inl ⟨rfl,H,n,λu g i=>(G u (k.all u g i)).1,λu g i=>(G u (k.all u g i)).2⟩⟩
  |false =>
   refine⟨_,rfl,rfl,.inr ⟨rfl,λT j=>?_,.inl ⟨rfl,H⟩⟩⟩;have:=K T λu a=>⟨j.right u (k.inn u a).1 (k.inn u a).2,j.good u (k.inn u a).1 (k.inn u a).2⟩;grind
where
 runP_bad {b:Zc} {c:ZA} {live:List Bool} {l:List Zj}:∀(r:List Int) (t:Zr),(Znc b c live l r t).1=false->(Znc b c live l r t).2=noT
  |[],t,h=>by cases h
  |v::r,t,h=>by
   unfold Znc at h ⊢;cases e:ZxW (newV b c live l t v)with
   |true=>rfl
   |false =>
    rw[e]at h;exact runP_bad r _ h
def Zhk (l:List ZA):Prop:=l.length<=4/\(∀c∈l,Vd c)/\V4 (l.map GK) l.length
variable (l:List ZA)
theorem Zk6 (h:sm (.sl Qf) l):ZeH l=some (tr (Zhk l)):=by
 have s:=ZK h;unfold ZeH;rw[QF (YV h) (λk c=>Vd c/\∀ (j:Nat) (q:ZA),j<k->l[j]?=some q->GK q≠GK c) (bad:=false) (good:=tr (l.length<=4))
  (λk c H e _=>by
   simp only[Zck,show(k:Int)<(l.length:Int)from by omega,Uk,Zv,H,Bq,Zio c (Zg1 h H)];by_cases a:Vd c
   ·rw[Uc (ZR a),Zj2 (f:=GK) (l:=l) (x:=c) (k:=k) (by omega) (by omega) (bad:=.inr false) (good:=.inl (Wq ((k:Int)+1),()))
     (λj y d i=>by
      simp only[Zcj,show (j:Int)<(k:Int) from by omega,Uk,Zv,i,Bq];split<;>rfl)
     (by simp only[Zcj,Ui,Uj])]
    constructor
    ·intro r;rw[Xr r.2]
    ·intro r;rw[Y7 (λq=>r ⟨a,q⟩)]
   ·rw[Ue (by rw[ZT a];simp)]
    exact ⟨λr=>absurd r.1 a,λ_=>rfl⟩)
  (λ_=>by
   simp only[Zck,Ui,Uj];congr 2;exact (Zm3 (by rw[Ul];omega)).symm)]
 rw[Zef];congr 1;refine Xj ?_;unfold Zhk;rw[Zn0,<-JA];constructor
 ·rintro⟨q,p⟩
  exact⟨p,λk x H=>(q k x H).1,λk x H=>⟨(q k x H).1.1,(q k x H).2⟩⟩
 ·rintro⟨p,Q,b⟩
  exact⟨λk x H=>⟨Q k x H,(b k x H).2⟩,p⟩
theorem Zjm (h:sm (.sl Qf) l) (H:l.length≠0):Zcu l=some (tr (Zhk l)):=by
 have s:=ZK h;unfold Zcu;have n:(l.map GK).length=l.length:=by simp
 have:=ZhV (l:=l) (ρ:=Bool) (λk=>((l.map GK).take k,(k:Int),())) (λ_ c=>Vd c) (step:=λv=>QJ l v.1 v.2.1) (bad:=false) (good:=tr (l.length<=4/\V4 (l.map GK) l.length))
  (λk c x b _=>by
   have X:(l.map GK)[k]?=some (GK c):=by simp[x]
   simp only[QJ,show(k:Int)<(l.length:Int)from by omega,Uk,Zv,x,Bq,ZfC c];rw[Zk (by simp only[Uo,UV,U5];omega),XF X,Xd];constructor
   ·intro r;rw[Uc (ZR r)]
   ·intro r;rw[Ue (by rw[ZT r];simp)])
  (λa=>by
   have E:(l.map GK).take l.length=l.map GK:=by rw[<-n,Ur]
   simp only[QJ,Ui,Uj,E,show QL l=some (l.length:Int)from rfl,Bq,Qs];by_cases i:l.length<=4
   ·rw[Uc (ZR (by omega)),VK _ (by rw[n];omega),Bq,n]
    congr 2;exact Xj ⟨λq=>⟨i,q⟩,λq=>q.2⟩
   ·rw[Ue (λq=>i (by have:=(Xf _).1 q;omega)),ZT (λq=>i q.1)])
 refine(show Zt (λv=>QJ l v.1 v.2.1) (([]:List (List UInt8)),(0:Int),())=_ from this).trans ?_;rw[Zef];congr 1;refine Xj ?_;rw[JA];exact⟨λq=>⟨q.2.1,q.1,q.2.2⟩,λq=>⟨q.2.1,q.1,q.2.2⟩⟩
def Zsl (k v:Int):Prop:=(k=1/\v=0)\/(k=2/\1<=v/\v<=10)\/((k=3\/k=4)/\0<=v/\v<=1000000000)
def Zsk (n:Nat) (l:List Int):Prop:=l.length<=4/\Zhj l 0 ((n:Int)-1)
def Zni (n:Nat) (e:Zu):Prop:=Zsk n (G7 e)/\Zsk n (G5 e)/\Zsk n (Ho e)/\Inc (G7 e)/\Inc (Ho e)/\Zsl (G4 e) (Hd e)
theorem ZCy {e:Zu} (h:sm Jj e):sm (.sl (.int .i64)) (G7 e)/\sm (.sl (.int .i64)) (G5 e)/\sm (.sl (.int .i64)) (Ho e):=by
 refine⟨?_,?_,?_⟩;all_goals first|exact h.1|exact h.2.1|exact h.2.2.1|exact h.2.2.2.1|exact h.2.2.2.2.1
variable (k:Int)
theorem ZnN (v:Int):ZgT k v=some (tr (Zsl k v)):=by
 unfold ZgT Zsl;simp only[Qs,Bq];by_cases k1:k=1
 ·rw[Uc k1];exact ZbT (by rw[Ul];omega)
 rw[Ue k1];by_cases d:k=2
 ·rw[Uc d];congr 1;exact Xj (by omega)
 rw[Ue d];by_cases Q:k=3
 ·rw[Uc Q,Uc Q];congr 1;exact Xj (by omega)
 rw[Ue Q];by_cases m:k=4
 ·rw[Uc m];congr 1;exact Xj (by omega)
 ·rw[Ue m,ZT (by omega)]
variable (v:ZG)
theorem Zhs (e:Zu) (h:sm Jj e) (X:(ZG.ZB v).length<=1048576):Vy v e=some (tr (Zni (ZG.ZB v).length e)):=by
 obtain ⟨A,g,b⟩:=ZCy h;have e1:Wq (((ZG.ZB v).length:Int)-1)=((ZG.ZB v).length:Int)-1:=QR;unfold Vy;rw[QF (l:=[G7 e,G5 e,Ho e]) (show List.length _<=_ by simp) (λ_ x=>Zsk (ZG.ZB v).length x) (bad:=false) (good:=tr (Zsl (G4 e) (Hd e)/\Inc (G7 e)/\Inc (Ho e)))
  (λk x d m _=>by
   have C:x.length<=1048576:=by
    have:=Ud d;simp only[Us,UR,Kd]at this;rcases this with rfl|rfl|rfl
    ·exact ZK A
    ·exact ZK g
    ·exact ZK b
   simp only[Jp,show(k:Int)<(List.length [G7 e,G5 e,Ho e]:Int)from by omega,Uk,Zv,d,Bq,show Yt (ZG.ZB v)=some ((ZG.ZB v).length:Int)from rfl,e1,Zfj x _ _ C];unfold Zsk;by_cases H:(4:Int)<(x.length:Int)
   ·rw[Uc H]
    exact⟨λr=>by omega,λ_=>rfl⟩
   ·rw[Ue H]
    constructor
    ·intro r;rw[Uc (ZR r.2)]
    ·intro r;rw[Ue (λq=>r ⟨by omega,(Xf _).1 q⟩)])
  (λ_=>by
   simp only[Jp,Ui,Uj,ZnN,Bq,Zam _ (YV (t:=.int .i64) A),Zam _ (YV (t:=.int .i64) b)];by_cases Q:Zsl (G4 e) (Hd e)
   ·rw[Uc (ZR Q)]
    by_cases a:Inc (G7 e)
    ·rw[Uc (ZR a)]
     congr 2;exact Xj ⟨λq=>⟨Q,a,q⟩,λq=>q.2.2⟩
    ·rw[Ue (λq=>a ((Xf _).1 q)),ZT (λq=>a q.2.1)]
   ·rw[Ue (λq=>Q ((Xf _).1 q)),ZT (λq=>Q q.1)]),Zef]
 congr 1;refine Xj ?_;rw[JA];simp only[Us,UR,Kd,forall_eq_or_imp,forall_eq];unfold Zni;exact⟨λ⟨⟨Q,a,c⟩,f,i,j⟩=>⟨Q,a,c,i,j,f⟩,λ⟨Q,a,c,i,j,f⟩=>⟨⟨Q,a,c⟩,f,i,j⟩⟩
theorem ZB9 {l:List Int}:Inc l<->ZeM l (λk x=>∀y,0<k->l[k-1]?=some y->y<x):=by
 constructor
 ·intro h k x H y a i
  exact h (k-1) y x i (by rw[show k-1+1=k by omega];exact H)
 ·intro h k x y H i
  exact h (k+1) y i x (by omega) H
theorem Ze4 (f:Few (K3 b)) (l:List Int) (srt:Bool) (h:sm (.sl (.int .i64)) l):Zbn b l srt=some (tr (Zsk (ZB (K3 b)).length l/\(srt=true->Inc l))):=by
 have s:=ZK h;have i:=YT f;have e1:Wq (((ZB (K3 b)).length:Int)-1)=((ZB (K3 b)).length:Int)-1:=QR;have I:Zf7 b=some ((ZB (K3 b)).length:Int):=by unfold Zf7;rw[Y5 _ f];rfl
 unfold Zbn;rw[QF (YV h) (λk x=>(0<=x/\x<=((ZB (K3 b)).length:Int)-1)/\(srt=true->∀ y,0<k->l[k-1]?=some y->y<x)) (bad:=false) (good:=tr (l.length<=4))
  (λk x H n _=>by
   simp only[ZcQ,show(k:Int)<(l.length:Int)from by omega,Uk,Zv,H,Bq,I,QT,e1];by_cases a:0<=x/\x<=((ZB (K3 b)).length:Int)-1
   ·rw[Uc (ZR a)]
    cases srt
    ·simp only[UN,Uj]
     exact⟨λ_=>trivial,λr=>absurd ⟨a,λq=>by cases q⟩ r⟩
    ·simp only[Uk]
     by_cases e:(0:Int)<(k:Int)
     ·obtain⟨y,j⟩:∃y,l[k-1]?=some y:=⟨_,Ua (by omega)⟩
      rw[Uc e,Zhm,Zv,j,Bq];constructor
      ·intro r
       rw[Ue];have:=r.2 trivial y (by omega) rfl;omega
      ·intro r
       rw[Uc];apply Uz;intro t;refine r ⟨a,λ_ Y _ c=>?_⟩;injection c with c
       have:¬x<=y:=t;omega
     ·rw[Ue e]
      exact⟨λ_=>rfl,λr=>absurd ⟨a,λ_ y g=>by omega⟩ r⟩
   ·rw[Ue (λq=>a ((Xf _).1 q))]
    exact ⟨λr=>absurd r.1 a,λ_=>rfl⟩)
  (λ_=>by
   simp only[ZcQ,Ui,Uj];congr 2;exact (Zm3 (by rw[Ul];omega)).symm),Zef]
 congr 1;refine Xj ?_;unfold Zsk;rw[ZB9];constructor
 ·rintro⟨Q,d⟩
  exact⟨⟨d,JA.1 (λk x H=>(Q k x H).1)⟩,λs k x H=>(Q k x H).2 s⟩
 ·rintro⟨⟨d,Q⟩,m⟩
  exact⟨λk x H=>⟨Q x (Ud H),λs=>m s k x H⟩,d⟩
theorem Zke (h:Xh b) (e:Zu) (H:sm Jj e):Zdd b e=some (tr (Zni (ZB (K3 b)).length e)):=by
 obtain⟨A,l,n⟩:=ZCy H;have f:=h.ok.1.few;unfold Zdd;rw[Zeh b h.sm,Bq,Uc (ZR h.ok)];refine ZeO (YO (Ze4 b f _ _ A) (λ_=>YO (Ze4 b f _ _ l) (λ_=>YO (Ze4 b f _ _ n) (λ_=>(?_:_=some (tr (Zsl (G4 e) (Hd e)))))))) ?_
 ·unfold Zsl
  simp only[QT,Bq];by_cases k1:G4 e=1
  ·rw[Uc k1];exact ZbT (by rw[Ul];omega)
  rw[Ue k1];by_cases k:G4 e=2
  ·rw[Uc k];congr 1;exact Xj (by omega)
  rw[Ue k];by_cases Q:G4 e=3
  ·rw[Uc Q,Uc Q];congr 1;exact Xj (by omega)
  rw[Ue Q];by_cases m:G4 e=4
  ·rw[Uc m];congr 1;exact Xj (by omega)
  ·rw[Ue m,ZT (by omega)]
 ·unfold Zni
  constructor
  ·rintro⟨⟨a,c⟩,⟨d,_⟩,⟨g,i⟩,j⟩;exact⟨a,d,g,c rfl,i rfl,j⟩
  ·rintro⟨a,d,g,c,i,j⟩;exact⟨⟨a,λ_=>c⟩,⟨d,λq=>by cases q⟩,⟨g,λ_=>i⟩,j⟩
structure Wv where
 period:Int
 rise:Int
 fall:Int
def ZxR (c:Zf) (w:Wv):Wv :=
 let w1:Wv:=if 1<GB c then⟨Wq (GB c*w.period),w.rise,Wq (w.rise+Wq (Wq ((GB c).tdiv 2)*w.period))⟩else w
 if Hm c=true then⟨w1.period,w1.fall,w1.rise⟩else w1
def Zvj (l:List Zf):Nat->Int->Wv
 |0,_=>⟨0,0,0⟩
 |n+1,k=>match l[k.toNat]? with
  |none=>⟨0,0,0⟩
  |some c=>if Gm c<0 then⟨GS c,GW c,GY c⟩else ZxR c (Zvj l n (Gm c))
def ZgC (l:List Zf) (k:Int):Wv:=Zvj l (k.toNat+1) k
def Zut (l:List Zf) (m:Int):Prop:=∀(j:Nat) (c:Zf),(j:Int)<m->l[j]?=some c->Gm c<(j:Int)
theorem Zmf (l:List Zf):∀(n:Nat) (k:Int),0<=k->k<n->Zut l (k+1)->Zvj l n k=ZgC l k
 |0,k,a,d,_=>by omega
 |n+1,k,a,d,q=>by
  unfold ZgC;simp only[Zvj];cases e:l[k.toNat]? with
  |none=>rfl
  |some c =>
   simp only;split
   ·rfl
   ·rename_i h
    have t:=q k.toNat c (by omega) e;have J:Zut l (Gm c+1):=λj L g b=>q j L (by omega) b;have e1:=Zmf l n (Gm c) (by omega) (by omega) J;rw[e1];have:∀m:Nat,Gm c<m->m<n+1->Zvj l m (Gm c)=ZgC l (Gm c):=λm R f=>Zmf l m (Gm c) (by omega) R J;by_cases H:k.toNat<n+1/\Gm c<(k.toNat:Int)
    ·rw[this k.toNat H.2 H.1]
    ·omega
 termination_by n=>n
theorem Ztc (l:List Zf) (k:Int) (a:0<=k) (c:Zf) (q:l[k.toNat]?=some c) (h:Zut l (k+1)) :
  ZgC l k=if Gm c<0 then⟨GS c,GW c,GY c⟩else ZxR c (ZgC l (Gm c)):=by
 unfold ZgC;rw[Zvj,q];simp only;split
 ·rfl
 ·rename_i H
  have t:=h k.toNat c (by omega) q;rw[Zmf l k.toNat (Gm c) (by omega) t (λj L d b=>h j L (by omega) b)];rfl
def wvI (w:Wv):ZcF:=(w.period,(w.rise,w.fall,()),())
def wvS (w:Wv):YX:=(w.period,w.rise,w.fall,())
def ZrJ (l:List Zf) (k:Int):Prop:=0<=k/\k<l.length/\Zut l (k+1)
theorem ZfG (l:List Zf):∀(n:Nat) (k:Int),ZrJ l k->(∀r,ZaZ n l k=some r->r=wvI (ZgC l k))/\(k<n->ZaZ n l k=some (wvI (ZgC l k)))
 |0,k,g=>⟨λr h=>by simp[ZaZ]at h,λh=>by have:=g.1;omega⟩
 |n+1,k,g=>by
  obtain⟨H,a,f⟩:=g;obtain⟨c,m,b⟩:=Zjv H a;have w:=Ztc l k H c b f;simp only[ZaZ,Zbf,m,Bq];split
  ·rename_i q
   rw[Uc q]at w;rw[w];exact⟨λr h=>by injection h with h;exact h.symm,λ_=>rfl⟩
  ·rename_i q
   rw[Ue q]at w;have t:=f k.toNat c (by omega) b;have i:=ZfG l n (Gm c) ⟨by omega,by omega,λj d s L=>f j d (by omega) L⟩;have J:∀o:Option ZcF,(∀r,o=some r->r=wvI (ZgC l (Gm c)))->∀F:ZcF->Option ZcF,F (wvI (ZgC l (Gm c)))=some (wvI (ZgC l k))->(∀r,o.bind F=some r->r=wvI (ZgC l k))/\(o≠none->o.bind F=some (wvI (ZgC l k))):=by
    intro o p F e;cases o with
    |none=>exact⟨λr h=>(by cases h),λh=>absurd rfl h⟩
    |some x =>
     have:=p x rfl;subst this;rw[Bq,e];exact⟨λr h=>by injection h with h;exact h.symm,λ_=>rfl⟩
   refine And.imp_right (λf u=>f (by rw[i.2 (by omega)];simp)) (J _ i.1 _ ?_);rw[w];simp only[ZxR,wvI];split<;>split<;>simp[*]
variable {l:List Zf} {k:Int}
theorem Zhe (g:ZrJ l k):ZeT l k=some (wvI (ZgC l k)) :=
 Zqx ⟨k.toNat+1,(ZfG l _ k g).2 (by have:=g.1;omega)⟩ (λn r h=>(ZfG l n k g).1 r h)
theorem Zgy (l:List Zf):∀(n:Nat) (k:Int),ZrJ l k->(∀r,Zci n l k=some r->r=wvS (ZgC l k))/\(k<n->Zci n l k=some (wvS (ZgC l k)))
 |0,k,g=>⟨λr h=>by simp[Zci]at h,λh=>by have:=g.1;omega⟩
 |n+1,k,g=>by
  obtain⟨H,a,f⟩:=g;obtain⟨c,m,b⟩:=Zjv H a;have w:=Ztc l k H c b f;simp only[Zci,Zch,m,Bq];split
  ·rename_i q
   rw[Uc q]at w;rw[w];exact⟨λr h=>by injection h with h;exact h.symm,λ_=>rfl⟩
  ·rename_i q
   rw[Ue q]at w;have t:=f k.toNat c (by omega) b;have i:=Zgy l n (Gm c) ⟨by omega,by omega,λj d s L=>f j d (by omega) L⟩;have J:∀o:Option YX,(∀r,o=some r->r=wvS (ZgC l (Gm c)))->∀F:YX->Option YX,F (wvS (ZgC l (Gm c)))=some (wvS (ZgC l k))->(∀r,o.bind F=some r->r=wvS (ZgC l k))/\(o≠none->o.bind F=some (wvS (ZgC l k))):=by
    intro o p F e;cases o with
    |none=>exact⟨λr h=>(by cases h),λh=>absurd rfl h⟩
    |some x =>
     have:=p x rfl;subst this;rw[Bq,e];exact⟨λr h=>by injection h with h;exact h.symm,λ_=>rfl⟩
   refine And.imp_right (λf u=>f (by rw[i.2 (by omega)];simp)) (J _ i.1 _ ?_);rw[w];simp only[ZxR,wvS];split<;>split<;>simp[*,Int.mul_comm]
theorem Zh9 (g:ZrJ l k):Zgd l k=some (wvS (ZgC l k)) :=
 Zqx ⟨k.toNat+1,(Zgy l _ k g).2 (by have:=g.1;omega)⟩ (λn r h=>(Zgy l n k g).1 r h)
def ZiV (c:Zf):Bool:=decide (0<=Gs c)&&decide (0<=G2 c)&&decide (G2 c<=G8 c)&&decide (G8 c<=100000)&&within (Ht c) 0 100000
def ZkV (c:Zf):Bool:=within (GS c) 2 100000&&within (GW c) 0 (Wq (GS c-1))&&within (GY c) 0 (Wq (GS c-1))&&decide (GW c≠GY c)&&decide (GB c=1)&&!Hm c
def Zyp (l:List Zf) (k:Int) (c:Zf):Bool:=within (Gm c) 0 (Wq (k-1))&&within (GB c) 1 8&&decide (GS c=0)&&decide (GW c=0)&&decide (GY c=0)&&decide ((ZgC l k).period<=100000)
def Zgi (l:List Zf) (k:Int) (c:Zf):Bool:=ZiV c&&(if Gm c=-1 then ZkV c else Zyp l k c)
variable (c:Zf)
theorem ZlN:Zak c=some (ZkV c):=by
 unfold Zak;simp only[Jb,Bq];repeat' split
 all_goals simp[ZkV, *]
theorem Zk5:ZeG c=some (ZkV c):=by
 unfold ZeG;simp only[JZ,Bq];repeat' split
 all_goals simp[ZkV, *]
theorem ZyP:ZiV c=(decide (0<=Gs c)&&within (G2 c) 0 100000&&within (G8 c) (G2 c) 100000&&within (Ht c) 0 100000):=by
 rw[Ko];simp only[ZiV,within,Up,Ul];omega
theorem Zm1 (q:(GA c).length<=4611686018427387904):Zf6 c=some (ZaK (GA c)&&ZiV c):=by
 unfold Zf6;rw[Zcf _ q,ZyP];simp only[JZ,Bq];repeat' split
 all_goals simp[*]
def ZpP (l:List Zf) (m:Int):Prop:=∀(j:Nat) (c:Zf),(j:Int)<m->l[j]?=some c->Zgi l j c=true
variable {c:Zf}
theorem Zsp {k:Nat} (h:Zgi l k c=true) (H:(k:Int)<=1000000:=by omega):Gm c=-1\/0<=Gm c/\Gm c<k:=by
 unfold Zgi at h;simp only[Up]at h;split at h
 ·exact .inl (by assumption)
 ·have f:=h.2
  unfold Zyp at f;simp only[within,Up,Ul]at f;rw[QR]at f;omega
theorem ZpP.src {m:Int} (h:ZpP l m) (R:m<=1000000):Zut l m:=by
 intro j c b q;have:=Zsp (h j c b q);omega
theorem Zpe (a:0<=k) (b:k<l.length) (f:k<=1000) (h:ZpP l k) (q:l[k.toNat]?=some c) (s:Gm c<k):ZrJ l k:=by
 refine⟨a,b,λj d e L=>?_⟩;by_cases H:(j:Int)<k
 ·exact h.src (by omega) j d H L
 ·have:j=k.toNat:=by omega
  subst this;rw[q]at L;injection L with L;subst L
  omega
theorem ZpK {s:Int} (x:0<=k) (H:k<=1000) (h:within s 0 (Wq (k-1))=true):0<=s/\s<k:=by
 rw[QD,QR]at h;omega
theorem Zuy (l:List Zf) (k:Int) (c:Zf):Zgi l k c=(decide (0<=Gs c)&&decide (0<=G2 c)&&decide (G2 c<=G8 c)&&decide (G8 c<=100000)&&within (Ht c) 0 100000 &&
  (if Gm c=-1 then ZkV c else within (Gm c) 0 (Wq (k-1))&&within (GB c) 1 8&&decide (GS c=0)&&decide (GW c=0)&&decide (GY c=0)&&decide ((ZgC l k).period<=100000))):=rfl
theorem ZnL (H:0<=k) (f:k<l.length) (b:k<=1000) (h:ZpP l k) (q:l[k.toNat]?=some c):ZgS l k=some (Zgi l k c):=by
 have w:within (Gm c) 0 (Wq (k-1))=true->ZeT l k=some (wvI (ZgC l k)):=λr=>Zhe (Zpe H f b h q (ZpK H b r).2);unfold ZgS;rw[Qt H q,Zuy];clear H f b h q;simp only[Jb,Bq,ZlN];generalize ZkV c=p;generalize Gs c=v1 at *;generalize G2 c=v at *;generalize G8 c=v3 at *;generalize Ht c=N at *;generalize Gm c=V at *;generalize GB c=g at *;generalize GS c=i at *;generalize GW c=m at *;generalize GY c=n at *;by_cases a:v1<0
 ·have:¬0<=v1:=by omega
  simp[a,this]
 by_cases A:v<0
 ·have:¬0<=v:=by omega
  simp[a,A,this]
 by_cases j:v3<v
 ·have:¬v<=v3:=by omega
  simp[a,A,j,this]
 by_cases e:100000<v3
 ·have:¬v3<=100000:=by omega
  simp[a,A,j,e,this]
 rw[Ue a,Ue A,Ue j,Ue e,UJ (show 0<=v1 by omega),UJ (show 0<=v by omega),UJ (show v<=v3 by omega),UJ (show v3<=100000 by omega)];cases within N 0 100000
 ·simp
 simp only[Uk,KE];by_cases F:V=-1
 ·rw[Uc F,Uc F]
 rw[Ue F,Ue F];cases d:within V 0 (Wq (k-1))
 ·simp
 rw[w d];simp only[Uk,KE];cases within g 1 8
 ·simp
 by_cases I:i=0
 ·by_cases J:m=0
  ·by_cases K:n=0
   ·simp[I,J,K,wvI]
   ·simp[I,J,K]
  ·simp[I,J]
 ·simp[I]
def Zih (l:List Zf):List (List UInt8):=l.map GA
def ZfS (l:List Zf):Prop:=l.length<=6/\ZpP l l.length/\V4 (Zih l) l.length
theorem ZmO (l:List Zf):ZfV l=some (tr (ZfS l)):=by
 unfold ZfV;split
 ·rename_i h
  rw[ZT];intro r;have:=r.1;omega
 ·rename_i G
  refine YC l.length (λk v=>v.2.1=(k:Int)/\v.1=Zih (l.take k)/\ZpP l k) _ ⟨rfl,rfl,λj s m=>by omega⟩ ?_ ?_
  ·rintro k ⟨N,i,⟨⟩⟩ o ⟨b,H,g⟩
   simp only at b H;subst b;have a:l[k]?=some l[k]:=Ua o;generalize l[k]=x at a;simp only[Zdl,Zv,a,Bq,show(k:Int)<(l.length:Int)from by omega,Uk,Yy (show(-9223372036854775808:Int)<=(k:Int)+1 by omega)];rw[ZnL (by omega) (by omega) (by omega) g (by simpa using a),Bq];split
   ·rename_i c
    have n:N.length=k:=by rw[H];simp[Zih];omega
    rw[Zk (by simp only[UV];omega)];refine .inl ⟨_,rfl,by simp,by rw[H,XF a];simp[Zih],λj d m L=>?_⟩;by_cases e:(j:Int)<k
    ·exact g j d e L
    ·have:j=k:=by omega
     subst this;rw[a]at L;injection L with L;subst L
     exact c
   ·rename_i c
    right;rw[ZT];intro r;exact c (r.2.1 k x (by omega) a)
  ·rintro⟨N,i,⟨⟩⟩ ⟨b,H,g⟩
   simp only at b H;subst b;rw[Ur]at H;have n:(Zih l).length=l.length:=by simp[Zih]
   subst H;simp only[Zdl,Ui,Uj];rw[VK _,Bq,n];congr 2;by_cases f:V4 (Zih l) l.length
   ·rw[ZR f,ZR ⟨by omega,g,f⟩]
   ·rw[ZT f,ZT (λr=>f r.2.2)]
def ZwZ (l:List Zf):Prop:=∀c∈l,(GA c).length<=4611686018427387904
variable {k:Nat}
theorem Zi9 (h:l[k]?=some c):(Zih l)[k]?=some (GA c):=by simp[Zih,h]
theorem Zkd (f:k<l.length) (G:l.length<=6) (q:l[k]?=some c) (a:ZpP l k) (g:ZiV c=true) :
  Zt (λv=>Za2 l (k:Int) c v.1) ((0:Int),()) =
   some (if GA c∈(Zih l).take k then .inr false else if Zgi l k c=true then .inl ((k:Int)+1,())else .inr false):=by
 refine YC k (λm v=>v.1=(m:Int)/\GA c ∉ (Zih l).take m) _ ⟨rfl,by simp⟩ ?_ ?_
 ·rintro m ⟨i,⟨⟩⟩ R ⟨H,X⟩
  simp only at H;subst H;have b:l[m]?=some l[m]:=Ua (by omega);generalize l[m]=x at b;have n:=Zi9 b;simp only[Za2,Zv,b,Bq,show(m:Int)<(k:Int)from by omega,Uk,Yy (show(-9223372036854775808:Int)<=(m:Int)+1 by omega)];split
  ·rename_i e
   right;rw[Uc];rw[<-e];refine UA.2 ⟨m,?_⟩;rw[UB,Uc R,n]
  ·rename_i e
   refine .inl ⟨_,rfl,by simp,?_⟩;rw[XF n];simp only[Uu,Ut,not_or];exact⟨X,λh=>e h.symm⟩
 ·rintro⟨i,⟨⟩⟩ ⟨H,X⟩
  simp only at H;subst H;have w:within (Gm c) 0 (Wq ((k:Int)-1))=true->Zgd l k=some (wvS (ZgC l k)):=λr =>
   Zh9 (Zpe (by omega) (by omega) (by omega) a (by simpa using q) (ZpK (by omega) (by omega) r).2)
  rw[Ue X];simp only[Za2,Ui,Uj,Zk5,JZ,Bq,Yy (show(-9223372036854775808:Int)<=(k:Int)+1 by omega)];have e:Zgi l k c=(ZiV c&&_):=rfl;rw[e,g,KE];by_cases A:Gm c=-1
  ·rw[Uc A,Uc A]
   cases ZkV c<;>simp
  rw[Ue A,Ue A];unfold Zyp;cases d:within (Gm c) 0 (Wq ((k:Int)-1))
  ·simp
  rw[w d];simp only[Uk,KE,Bq];cases within (GB c) 1 8
  ·simp
  by_cases I:GS c=0
  ·by_cases J:GW c=0
   ·by_cases K:GY c=0
    ·by_cases s:100000<(ZgC l k).period
     ·have:¬(ZgC l k).period<=100000:=by omega
      simp[I,J,K,wvS,s,this]
     ·have:(ZgC l k).period<=100000:=by omega
      simp[I,J,K,wvS,s,this]
    ·simp[I,J,K]
   ·simp[I,J]
  ·simp[I]
theorem ZfI (l:List Zf) (X:ZwZ l) (t:l.length<=4611686018427387904:=by omega):ZcA l=some (tr (ZfS l)):=by
 unfold ZcA;refine YC l.length (λk v=>v.1=(k:Int)/\(0<k->l.length<=6)/\ZpP l k/\V4 (Zih l) k) _ ⟨rfl,by omega,λj s o=>by omega,λj s o=>by omega⟩ ?_ ?_
 ·rintro k ⟨i,⟨⟩⟩ f ⟨a,_,b,n⟩
  simp only at a;subst a;have h:l[k]?=some l[k]:=Ua f;generalize l[k]=x at h;simp only[Zds,Zv,h,Bq,show(k:Int)<(l.length:Int)from by omega,Uk];split
  ·rename_i G
   have H:l.length<=6:=by omega
   rw[Zm1 _ (X x (Ud h)),Bq];split
   ·rename_i g
    simp only[Up]at g;rw[Zkd f H h b g.2];split
    ·rename_i R
     right;rw[ZT];exact λr=>(r.2.2 k (GA x) f (Zi9 h)).2 R
    ·rename_i R
     split
     ·rename_i c
      refine .inl ⟨_,rfl,by simp,λ_=>H,λj d o L=>?_,λj s o q=>?_⟩
      ·by_cases e:(j:Int)<k
       ·exact b j d e L
       ·have:j=k:=by omega
        subst this;rw[h]at L;injection L with L;subst L
        exact c
      ·by_cases e:j<k
       ·exact n j s e q
       ·have:j=k:=by omega
        subst this;rw[Zi9 h]at q;injection q with q;subst q
        exact⟨g.1,R⟩
     ·rename_i c
      right;rw[ZT];exact λr=>c (r.2.1 k x (by omega) h)
   ·rename_i g
    right;rw[ZT];intro r;have p:=(r.2.2 k (GA x) f (Zi9 h)).1;have m:=r.2.1 k x (by omega) h;unfold Zgi at m;simp only[Up]at m;exact g (by rw[p,m.1];rfl)
  ·rename_i G
   right;rw[ZT (λr=>G (by have:=r.1;omega))];simp[G]
 ·rintro⟨i,⟨⟩⟩ ⟨a,_,b,n⟩
  simp only at a;subst a;simp only[Zds,Ui,Uj];by_cases G:(l.length:Int)<=6
  ·rw[ZR ⟨by omega,b,n⟩,UJ G]
  ·rw[ZT (λr=>G (by have:=r.1;omega)),decide_eq_false G]
structure ZFZ (w:Wv):Prop where
 p1:2<=w.period
 p2:w.period<=100000
 r1:0<=w.rise
 r2:w.rise<w.period
 f1:0<=w.fall
 f2:w.fall<w.period
theorem ZC0 {l:List Zf} {m:Int} (R:m<=6) (h:ZpP l m):∀(n:Nat) (k:Int),k<n->0<=k->k<m->k<l.length->ZFZ (ZgC l k)
 |0,k,e,p,_,_=>by omega
 |n+1,k,e,p,x,y=>by
  obtain⟨c,q⟩:∃c,l[k.toNat]?=some c:=⟨_,Ua (by omega)⟩;have H:=h k.toNat c (by omega) q;rw[show(k.toNat:Int)=k by omega]at H;have a:Zut l (k+1):=λj d z L=>h.src (by omega) j d (by omega) L;have b:=Ztc l k p c q a;simp only[Zgi,Up]at H;obtain⟨r,H⟩:=H;split at H
  ·rename_i C
   rw[QP]at b;simp only[ZkV,within,Up,Ul]at H;obtain⟨⟨⟨⟨⟨⟨f,g⟩,o,A⟩,F,G⟩,_⟩,_⟩,_⟩:=H;rw[QR]at A G;rw[b];constructor<;>simp only<;>omega
  ·simp only[Zyp,within,Up,Ul]at H
   obtain⟨⟨⟨⟨⟨⟨f,g⟩,o,A⟩,_⟩,_⟩,_⟩,F⟩:=H;rw[QR]at g;rw[QQ]at b;have i:=ZC0 R h n (Gm c) (by omega) f (by omega) (by omega);have N:=i.p1;have P:=i.p2;have B:=i.r1;have T:=i.r2;have U:=i.f1;have u:=i.f2;rw[b]at F ⊢;clear b i;simp only[ZxR]at F ⊢;generalize ZgC l (Gm c)=w at *;generalize GB c=v at *;have Q:0<=v.tdiv 2/\v.tdiv 2<=4:=by
    rw[U8 (by omega)];omega
   have D:2*1<=v*w.period/\v*w.period<=8*100000:=by
    constructor
    ·have:=Int.mul_le_mul o N (by omega) (by omega);omega
    ·exact Int.mul_le_mul A P (by omega) (by omega)
   have E:0<=v.tdiv 2*w.period/\v.tdiv 2*w.period<=4*100000:=by
    constructor
    ·exact Int.mul_nonneg Q.1 (by omega)
    ·exact Int.mul_le_mul Q.2 P (by omega) (by omega)
   have s:1<v->v.tdiv 2*w.period<=v*w.period-w.period:=by
    intro L;have e:v.tdiv 2<=v-1:=by rw[U8 (by omega)];omega
    have:=Kq e (show 0<=w.period by omega);rw[Int.sub_mul,Int.one_mul]at this;exact this
   have t:1<v->w.period<=v*w.period:=by
    intro L;have:=Kq (show(1:Int)<=v by omega) (show 0<=w.period by omega);rw[Int.one_mul]at this;exact this
   rw[QR (n:=v*w.period),QR (n:=v.tdiv 2),QR (n:=v.tdiv 2*w.period),QR (n:=w.rise+v.tdiv 2*w.period)]at F ⊢;by_cases c1:1<v<;>by_cases c2:Hm c=true
   all_goals simp only[c1,c2,Uk,Uj,UN,true_implies,false_implies]at F s t ⊢
   all_goals (constructor<;>(try simp only)<;>omega)
theorem ZGp {k:Int} (h:ZfS l) (a:0<=k:=by omega) (H:k<l.length:=by omega):ZFZ (ZgC l k):=by
 have G:=h.1;exact ZC0 (by omega) h.2.1 (k.toNat+1) k (by omega) a H H
theorem Zuc {k:Int} (h:ZfS l) (H:0<=k:=by omega) (a:k<l.length:=by omega):ZrJ l k :=
 ⟨H,a,λj c b q=>h.2.1.src (by have:=h.1;omega) j c (by omega) q⟩
variable {ρ:Type} {P Q:Prop} {m:Option ρ} {a b:ρ}
theorem Zvp {_:Decidable P} (R:P->m=some (sel Q a b)):(if P then m else some b)=some (sel (P/\Q) a b):=by
 by_cases h:P
 ·rw[Uc h,R h]
  by_cases q:Q
  ·rw[Xr q,Xr ⟨h,q⟩]
  ·rw[Y7 q,Y7 (λx=>q x.2)]
 ·rw[Ue h,Y7 (λq=>h q.1)]
theorem ZjK {_:Decidable P} (R:¬P->m=some (sel Q a b)):(if P then some b else m)=some (sel (¬P/\Q) a b):=by
 by_cases h:P
 ·rw[Uc h,Y7 (λq=>q.1 h)]
 ·rw[Ue h,R h]
  by_cases q:Q
  ·rw[Xr q,Xr ⟨h,q⟩]
  ·rw[Y7 q,Y7 (λx=>q x.2)]
theorem Zhy {c:Option Bool} (h:c=some (tr P)) (R:P->m=some (sel Q a b)):(c.bind λx=>if x=true then m else some b)=some (sel (P/\Q) a b):=by
 rw[h,Bq];by_cases g:P
 ·rw[Uc (ZR g),R g]
  by_cases q:Q
  ·rw[Xr q,Xr ⟨g,q⟩]
  ·rw[Y7 q,Y7 (λx=>q x.2)]
 ·rw[Ue (by rw[ZT g];simp),Y7 (λq=>g q.1)]
theorem ZzC:some a=some (sel True a b):=by rw[Xr trivial]
theorem ZjJ (h:m=some (sel P a b)) (q:P<->Q):m=some (sel Q a b):=by rw[h,propext q]
theorem Zuk (h:m=some (sel P a b)):(P->m=some a)/\(¬P->m=some b):=⟨λq=>by rw[h,Xr q],λq=>by rw[h,Y7 q]⟩
def ZpO (s:Zz):Prop:=K8 s<=Ga s/\-100000<=K8 s/\Ga s<=100000
def ZzK (l:List Pl) (drv:Bool) (i:Int):Prop:=∃p,atI l i=some p/\p.1<0/\p.2.2.2.1=drv
def ZjM (p:List Pl) (n:Int) (drv:Bool) (l:List Zh) (k:Nat) (x:Zh):Prop :=
 (0<=Gj x/\Gj x<=(p.length:Int)-1)/\ZzK p drv (Gj x)/\(∀y,0<k->l[k-1]?=some y->Gj y<Gj x)/\
 (0<=GQ x/\GQ x<=n-1)/\ZpO (Gt x)/\ZcT (G3 x)/\(drv=false->K8 (G3 x)=0/\Ga (G3 x)=0)
def Zif (p:List Pl) (n:Int) (drv:Bool) (l:List Zh):Prop:=ZeM l (ZjM p n drv l)
theorem ZiJ (i:Int) (X:(ZG.ZB v).length<=1048576):Jg v i=some (tr (0<=i/\i<=((ZG.ZB v).length:Int)-1)):=by
 unfold Jg;rw[show Yt (ZG.ZB v)=some ((ZG.ZB v).length:Int)from rfl,Bq,QR];exact Zdj (Qs _ _ _)
theorem Zng {s:Zz}:(Decidable.decide (K8 s=(0:Int))&&Decidable.decide (Ga s=(0:Int)))=true<->K8 s=0/\Ga s=0:=by simp
variable {drv:Bool} {i:Int}
theorem Zfo {l:List Pl} {p:Pl} (h:atI l i=some p):ZzK l drv i<->¬(0:Int)<=p.1/\(p.2.2.2.1==drv)=true:=by
 unfold ZzK;rw[h,Kb];constructor
 ·rintro⟨q,Q,a,c⟩
  injection Q with Q
  subst Q;exact⟨by omega,c⟩
 ·rintro⟨Q,a⟩
  exact⟨p,rfl,by omega,a⟩
variable {x:Zh}
theorem Zi6 {l:List Zh} {y:Zh} (H:0<k) (i:l[k-1]?=some y):(∀y,0<k->l[k-1]?=some y->Gj y<Gj x)<->¬Gj x<=Gj y:=by
 constructor
 ·intro h
  have:=h y H i;omega
 ·intro h z _ T
  rw[i]at T;injection T with T
  subst T;omega
theorem ZhG {l:List Zh} (H:¬0<k):(∀y,0<k->l[k-1]?=some y->Gj y<Gj x)<->True:=⟨λ_=>trivial,λ_ y h=>absurd h H⟩
theorem ZfQ (l:List Zh) (drv:Bool) (n:Int) (h:sm (.sl Jz) l) (X:(ZG.ZB v).length<=1048576) (b:0<=n:=by omega) (c:n<=1048576:=by omega):Vi v l drv n=some (tr (Zif (ZG.ZB v) n drv l)):=by
 have s:=ZK h;have e1:Wq (n-1)=n-1:=QR;unfold Vi;rw[QF (YV h) (ZjM (ZG.ZB v) n drv l) (bad:=false) (good:=true)
  (λk x a e _=>by
   refine Zuk ?_;simp only[V6,show(k:Int)<(l.length:Int)from by omega,Uk,Zv,a,Bq,e1];refine ZjJ (Q:=ZjM (ZG.ZB v) n drv l k x) (P:=(0<=Gj x/\Gj x<=((ZG.ZB v).length:Int)-1)/\ZjM (ZG.ZB v) n drv l k x) (Zhy (ZiJ v _ X) (λg=>?_)) ⟨λq=>q.2,λq=>⟨q.1,q⟩⟩;obtain⟨p,d,_⟩:=Zfk g.1 (show Gj x<((ZG.ZB v).length:Int) by omega);rw[d,Bq];by_cases H:0<k
   ·obtain⟨y,i⟩:∃y,l[k-1]?=some y:=⟨_,Ua (by omega)⟩
    rw[Uc (show(0:Int)<(k:Int) by omega),Zhm,Zv,i,Bq];cases drv
    ·simp only[UN,Uj]
     refine ZjJ (ZjK (λ_=>Zvp (λ_=>ZjK (λ_=>Zhy (Qs _ _ _) (λ_=>Zhy (Ja _) (λ_=>ZjK (λ_=>ZjK (λ_=>Zvp (λ_=>ZzC))))))))) ?_;unfold ZjM;rw[Zfo d,Zi6 H i,Zng];unfold ZpO ZcT ZaH;grind
    ·simp only[Uk]
     refine ZjJ (ZjK (λ_=>Zvp (λ_=>ZjK (λ_=>Zhy (Qs _ _ _) (λ_=>Zhy (Ja _) (λ_=>ZjK (λ_=>ZjK (λ_=>Zhy (ZfD _) (λ_=>ZzC))))))))) ?_;unfold ZjM;rw[Zfo d,Zi6 H i];unfold ZpO ZcT ZaH;grind
   ·rw[Ue (show ¬(0:Int)<(k:Int) by omega)]
    cases drv
    ·simp only[UN,Uj]
     refine ZjJ (ZjK (λ_=>Zvp (λ_=>Zhy (Qs _ _ _) (λ_=>Zhy (Ja _) (λ_=>ZjK (λ_=>ZjK (λ_=>Zvp (λ_=>ZzC)))))))) ?_;unfold ZjM;rw[Zfo d,ZhG H,Zng];unfold ZpO ZcT ZaH;grind
    ·simp only[Uk]
     refine ZjJ (ZjK (λ_=>Zvp (λ_=>Zhy (Qs _ _ _) (λ_=>Zhy (Ja _) (λ_=>ZjK (λ_=>ZjK (λ_=>Zhy (ZfD _) (λ_=>ZzC)))))))) ?_;unfold ZjM;rw[Zfo d,ZhG H];unfold ZpO ZcT ZaH;grind)
  (λ_=>by simp only[V6,Ui,Uj]),Zhz]
 rfl
variable (b:Zc) (s:Zo)
theorem ZfR (l:List Zh) (drv:Bool) (h:sm (.sl Jz) l) (f:Few (K3 b)) (j:(Gb s).length<=1048576):ZaF b s l drv=some (tr (Zif (ZB (K3 b)) ((Gb s).length:Int) drv l)):=by
 have n:=ZK h;have a:=YT f;have e1:Wq (((Gb s).length:Int)-1)=((Gb s).length:Int)-1:=QR;have e:Wq (((ZB (K3 b)).length:Int)-1)=((ZB (K3 b)).length:Int)-1:=QR;unfold ZaF;rw[Y5 _ f,Bq];rw[QF (YV h) (ZjM (ZB (K3 b)) ((Gb s).length:Int) drv l) (bad:=false) (good:=true)
  (λk x c m _=>by
   refine Zuk ?_;simp only[Zbb,show(k:Int)<(l.length:Int)from by omega,Uk,Zv,c,Bq,e1,e];refine ZjJ (Q:=ZjM (ZB (K3 b)) ((Gb s).length:Int) drv l k x) (P:=(0<=Gj x/\Gj x<=((ZB (K3 b)).length:Int)-1)/\ZjM (ZB (K3 b)) ((Gb s).length:Int) drv l k x) (Zhy (QT _ _ _) (λg=>?_)) ⟨λq=>q.2,λq=>⟨q.1,q⟩⟩;obtain⟨p,d,_⟩:=Zfk g.1 (show Gj x<((ZB (K3 b)).length:Int) by omega);rw[d];simp only[Bq];by_cases H:0<k
   ·obtain⟨y,i⟩:∃y,l[k-1]?=some y:=⟨_,Ua (by omega)⟩
    rw[Uc (show(0:Int)<(k:Int) by omega),Zhm,Zv,i,Bq];cases drv
    ·simp only[UN,Uj]
     refine ZjJ (ZjK (λ_=>Zhy (QT _ _ _) (λ_=>ZjK (λ_=>Zvp (λ_=>ZjK (λ_=>ZjK (λ_=>ZjK (λ_=>Zhy (Zbh _) (λ_=>Zvp (λ_=>ZzC)))))))))) ?_;unfold ZjM;rw[Zfo d,Zi6 H i,Zng];unfold ZpO ZcT;grind
    ·simp only[Uk]
     refine ZjJ (ZjK (λ_=>Zhy (QT _ _ _) (λ_=>ZjK (λ_=>Zvp (λ_=>ZjK (λ_=>ZjK (λ_=>ZjK (λ_=>Zhy (Zbh _) (λ_=>ZzC))))))))) ?_;unfold ZjM;rw[Zfo d,Zi6 H i];unfold ZpO ZcT;grind
   ·rw[Ue (show ¬(0:Int)<(k:Int) by omega)]
    cases drv
    ·simp only[UN,Uj]
     refine ZjJ (Zhy (QT _ _ _) (λ_=>ZjK (λ_=>Zvp (λ_=>ZjK (λ_=>ZjK (λ_=>ZjK (λ_=>Zhy (Zbh _) (λ_=>Zvp (λ_=>ZzC))))))))) ?_;unfold ZjM;rw[Zfo d,ZhG H,Zng];unfold ZpO ZcT;grind
    ·simp only[Uk]
     refine ZjJ (Zhy (QT _ _ _) (λ_=>ZjK (λ_=>Zvp (λ_=>ZjK (λ_=>ZjK (λ_=>ZjK (λ_=>Zhy (Zbh _) (λ_=>ZzC)))))))) ?_;unfold ZjM;rw[Zfo d,ZhG H];unfold ZpO ZcT;grind)
  (λ_=>by simp only[Zbb,Ui,Uj]),Zhz]
 rfl
theorem Zxp {s:Zo} (h:sm Zc4 s):sm (.sl ZbL) (Gb s)/\sm (.sl Jz) (GN s)/\sm (.sl Jz) (Hn s)/\sm (.sl Jj) (Gz s)/\sm (.sl Qf) (GV s):=by
 refine⟨?_,?_,?_,?_,?_⟩;all_goals first|exact h.1|exact h.2.1|exact h.2.2.1|exact h.2.2.2.1|exact h.2.2.2.2.1
theorem Zy2 (h:sm (.sl ZbL) l):ZwZ l:=by
 intro c q;have:=Zoj h q;refine Zgz ?_;first|exact this.1|exact this.2.1
def ZjN (l:List Pl) (s:Zo):Prop :=
 ZfS (Gb s)/\(∀c∈Gb s,Gs c<(l.length:Int))/\Zif l ((Gb s).length:Int) true (GN s)/\Zif l ((Gb s).length:Int) false (Hn s)/\
 (Gz s).length<=6/\(∀e∈Gz s,Zni l.length e)/\Zhk (GV s)
theorem ZfS.place (h:ZfS l) (q:c∈l):0<=Gs c:=by
 obtain⟨k,H⟩:=UA.1 q;have d:=h.2.1 k c (by have:=(Ub.1 H).1;omega) H;unfold Zgi ZiV at d;simp only[Up,Ul]at d;exact d.1.1.1.1.1
theorem ZnM (h:sm Zc4 s) (X:(ZG.ZB v).length<=1048576):Zcx v s=some (tr (ZjN (ZG.ZB v) s)):=by
 obtain⟨A,l,n,i,F⟩:=Zxp h;have S:=ZK A;unfold Zcx;rw[show Zbt (Gb s)=some ((Gb s).length:Int)from rfl,Bq];refine ZeO (YO (ZmO _) (λo=>Ztm (P:=¬∀c∈Gb s,Gs c<((ZG.ZB v).length:Int)) ?_ (λ_=>YO (ZfQ v _ true _ l X) (λ_=>YO (ZfQ v _ false _ n X) (λ_=>Zgf (λ_=>Ztm (P:=¬∀e∈Gz s,Zni (ZG.ZB v).length e) ?_ (λ_=>(?_:_=some (tr (Zhk (GV s))))))))))) ?_
 ·rw[Qr (YV A) (λc=>!tr (0<=Gs c/\Gs c<=((ZG.ZB v).length:Int)-1)) (λc _=>by
   unfold VX;show (Jg v (Gs c)).bind _=_;rw[ZiJ v _ X];rfl)]
  refine ZbT ?_;rw[KN];constructor
  ·rintro⟨c,q,b⟩ H
   have:=H c q;have k:=o.place q;rw[ZR (by omega)]at b;cases b
  ·intro r
   apply Uz;intro y;refine r (λc q=>?_);apply Uz;intro t;exact y ⟨c,q,by rw[ZT (by omega)];rfl⟩
 ·rw[XH (YV i) (λe=>!tr (Zni (ZG.ZB v).length e)) (λe p=>by
   unfold VY;show (Vy v e).bind _=_;rw[Zhs v e (Zoj i p) X];rfl)]
  refine ZbT ?_;rw[KN];constructor
  ·rintro⟨c,q,b⟩ H
   rw[ZR (H c q)]at b;cases b
  ·intro r
   apply Uz;intro y;refine r (λc q=>?_);apply Uz;intro t;exact y ⟨c,q,by rw[ZT t];rfl⟩
 ·by_cases k:(GV s).length=0
  ·rw[QP]
   refine ZbT ⟨λ_=>?_,λ_=>rfl⟩;have:GV s=[]:=UC k;rw[this];exact⟨by simp,λc q=>(by cases q),λj _ u=>(by simp at u)⟩
  ·rw[QQ,Zjm _ F k];rfl
 ·unfold ZjN
  simp only[Classical.not_not];constructor
  ·rintro⟨Q,a,d,f,w,g,m⟩;exact⟨Q,a,d,f,by omega,g,m⟩
  ·rintro⟨Q,a,d,f,w,g,m⟩;exact⟨Q,a,d,f,by omega,g,m⟩
def Znj (b:Zc) (s:Zo):Prop:=ZjL b/\ZjN (ZB (K3 b)) s
theorem ZiH (h:sm Xi b) (q:sm Zc4 s):Zfm b s=some (tr (Znj b s)):=by
 unfold Zfm;refine YO (ZbX b h) (λj=>?_);obtain⟨v,d,f,_⟩:=ZsT ⟨j,h⟩;have g:=YT j.1.few;rw[d,Bq,ZnM v s q (by rw[f];omega),f];rfl
theorem Zol (H:sm Xi b) (v:sm Zc4 s):Zg2 b s=some (tr (Znj b s)):=by
 obtain⟨a,n,o,A,F⟩:=Zxp v;have S:=ZK a;have x:=ZK A;unfold Zg2;refine ZeO (YO (Zeh b H) (λh=>YO (ZfI _ (Zy2 a)) (λy=>Zgf (λ_=>YO (Zk6 _ F) (λ_=>(?_:_=some (tr (ZeM (Gb s) (λ_ c=>Gs c<((ZB (K3 b)).length:Int))/\ZeM (Gz s) (λ_ e=>Zni (ZB (K3 b)).length e)/\Zif (ZB (K3 b)) ((Gb s).length:Int) true (GN s)/\Zif (ZB (K3 b)) ((Gb s).length:Int) false (Hn s))))))))) ?_
 ·have f:=h.1.few
  have u:=YT f;rw[QF (YV a) (λ_ c=>Gs c<((ZB (K3 b)).length:Int)) (bad:=false) (good:=tr (ZeM (Gz s) (λ_ e=>Zni (ZB (K3 b)).length e)/\Zif (ZB (K3 b)) ((Gb s).length:Int) true (GN s)/\Zif (ZB (K3 b)) ((Gb s).length:Int) false (Hn s)))
   (λk c l t _=>by
    simp only[Zel,show(k:Int)<((Gb s).length:Int)from by omega,Uk,Zv,l,Bq,Y5 _ f];constructor
    ·intro r;rw[QQ]
    ·intro r;rw[QP])
   (λ_=>by
    simp only[Zel,Ui,Uj];rw[QF (YV A) (λ_ e=>Zni (ZB (K3 b)).length e) (bad:=.inr false) (good:=.inr (tr (Zif (ZB (K3 b)) ((Gb s).length:Int) true (GN s)/\Zif (ZB (K3 b)) ((Gb s).length:Int) false (Hn s))))
     (λk e l t _=>by
      simp only[Zek,show(k:Int)<((Gz s).length:Int)from by omega,Uk,Zv,l,Bq,Zke b ⟨h,H⟩ e (Zg1 A l)];constructor
      ·intro r;rw[Uc (ZR r)]
      ·intro r;rw[Ue (λq=>r ((Xf _).1 q))])
     (λ_=>by
      simp only[Zek,Ui,Uj,ZfR b s _ _ n f S,ZfR b s _ _ o f S,Bq];by_cases Q:Zif (ZB (K3 b)) ((Gb s).length:Int) true (GN s)
      ·rw[Uc (ZR Q)]
       congr 3;exact Xj ⟨λq=>⟨Q,q⟩,λq=>q.2⟩
      ·rw[Ue (λq=>Q ((Xf _).1 q)),ZT (λq=>Q q.1)])]
    congr 1;by_cases Q:ZeM (Gz s) (λ_ e=>Zni (ZB (K3 b)).length e)
    ·rw[Xr Q]
     congr 1;exact Xj ⟨λq=>⟨Q,q⟩,λq=>q.2⟩
    ·rw[Y7 Q,ZT (λq=>Q q.1)]),Zef]
 ·unfold Znj ZjN
  rw[JA,JA];constructor
  ·rintro⟨Q,d,w,g,i,j,m,p⟩;exact⟨Q,d,i,m,p,by omega,j,g⟩
  ·rintro⟨Q,d,i,m,p,w,j,g⟩;exact⟨Q,d,by omega,g,i,j,m,p⟩
structure Ziv {α:Type} (key:α->Int) (A B:List α):Prop where
 mem:∀x,x∈A<->x∈B
 inc:ZcR key B
 nod:(A.map key).Nodup
 prs:∀p:Int,(∃x∈B,key x=2*p)<->∃x∈B,key x=2*p+1
 len:A.length=B.length
variable {α:Type} (key:α->Int)
theorem Ziv.nil:Ziv key [] [] :=
 ⟨λx=>KT,List.Pairwise.nil,KM,λp=>by simp,rfl⟩
theorem Zu2 (l:List α) (a b:α):(Zms key l a b).length=l.length+2:=by
 unfold Zms;have:=Zl0 key (key a) l;simp only[Uh,Uf,Uo,US];omega
variable {key:α->Int} {A B:List α}
theorem Ziv.add (h:Ziv key A B) {a b:α} {p:Int} (n:key a=2*p) (j:key b=2*p+1) (X:¬∃x∈B,key x=2*p):Ziv key (A++[a,b]) (Zms key B a b):=by
 have H:¬∃x∈B,key x=2*p+1:=λq=>X ((h.prs p).2 q);have o:∀x∈B,key x<key a\/key b<key x:=λx l=>by
  have d:key x≠2*p:=λe=>X ⟨x,l,e⟩;have g:key x≠2*p+1:=λe=>H ⟨x,l,e⟩;omega
 refine⟨λx=>?_,Zu1 h.inc (by omega) o,?_,λq=>?_,?_⟩
 ·rw[Uu,ZdL,h.mem x]
  simp only[Us,UR,Kd];constructor
  ·rintro(w|w|w)
   ·exact .inr (.inr w)
   ·exact .inl w
   ·exact .inr (.inl w)
  ·rintro(w|w|w)
   ·exact .inr (.inl w)
   ·exact .inr (.inr w)
   ·exact .inl w
 ·rw[Kp,UW]
  refine⟨h.nod,?_,?_⟩
  ·simp only[Kv,List.map_nil,KU,Us,UR,Kd,not_false_eq_true,KM,and_true]
   omega
  ·intro x l y i
   obtain⟨z,T,rfl⟩:=KQ.1 l;have:=o z ((h.mem z).1 T);simp only[Kv,List.map_nil,Us,UR,Kd]at i;rcases i with rfl|rfl<;>omega
 ·have c:=h.prs q
  constructor
  ·rintro⟨x,l,e⟩
   rcases ZdL.1 l with rfl|rfl|l
   ·exact⟨b,ZdL.2 (.inr (.inl rfl)),by omega⟩
   ·omega
   ·obtain⟨y,i,f⟩:=c.1 ⟨x,l,e⟩
    exact⟨y,ZdL.2 (.inr (.inr i)),f⟩
  ·rintro⟨x,l,e⟩
   rcases ZdL.1 l with rfl|rfl|l
   ·omega
   ·exact⟨a,ZdL.2 (.inl rfl),by omega⟩
   ·obtain⟨y,i,f⟩:=c.2 ⟨x,l,e⟩
    exact⟨y,ZdL.2 (.inr (.inr i)),f⟩
 ·rw[Uh,Zu2,h.len]
  rfl
theorem Ziv.perm (h:Ziv key A B):B.Perm A:=by
 have c:A.Nodup:=List.Pairwise.of_map key (λa b q e=>q (by rw[e])) h.nod;have j:B.Nodup:=h.inc.imp λ{x y} q e=>by rw[e]at q;omega
 exact(List.perm_ext_iff_of_nodup j c).2 λx=>(h.mem x).symm
def Ztg {α:Type} (key:α->Int) (q:α×α):Prop:=∃p,key q.1=2*p/\key q.2=2*p+1
def Zgl {α:Type} (key:α->Int) (n:Int) (l:List α):Bool:=l.any λx=>decide (key x=n)
variable {l:List α}
theorem Zgb {n:Int}:Zgl key n l=true<->∃x∈l,key x=n:=by
 unfold Zgl;rw[KN];constructor
 ·rintro⟨x,d,f⟩;exact⟨x,d,of_decide_eq_true f⟩
 ·rintro⟨x,d,f⟩;exact⟨x,d,UJ f⟩
def Zq4 {α:Type} (key:α->Int) (A:List α) (q:α×α):List α:=if Zgl key (key q.1) A=true then A else A++[q.1,q.2]
def Zu0 {α:Type} (key:α->Int) (B:List α) (q:α×α):List α:=if Zgl key (key q.1) B=true then B else Zms key B q.1 q.2
theorem Ziv.step (h:Ziv key A B) {q:α×α} (a:Ztg key q):Ziv key (Zq4 key A q) (Zu0 key B q):=by
 obtain⟨p,d,f⟩:=a;have e:Zgl key (key q.1) A=true<->Zgl key (key q.1) B=true:=by
  rw[Zgb,Zgb];constructor
  ·rintro⟨x,l,q⟩;exact⟨x,(h.mem x).1 l,q⟩
  ·rintro⟨x,l,q⟩;exact⟨x,(h.mem x).2 l,q⟩
 unfold Zq4 Zu0;by_cases c:Zgl key (key q.1) B=true
 ·rw[Uc c,Uc (e.2 c)];exact h
 ·rw[Ue c,Ue (λz=>c (e.1 z))]
  exact h.add d f (λz=>c (Zgb.2 (by rw[d];exact z)))
theorem Zx0 (key:α->Int) (A:List α) (q:α×α):(Zq4 key A q).length<=A.length+2:=by
 unfold Zq4;split
 ·omega
 ·rw[Uh];exact UE _
theorem Zl9 {α β:Type} {key:α->Int} {g:Nat->β->α×α}:∀(l:List β) (m:Nat) {A B:List α},Ziv key A B->(∀k x,l[k]?=some x->Ztg key (g (m+k) x))->
  Ziv key (XU (λk x s=>Zq4 key s (g k x)) m l A) (XU (λk x s=>Zu0 key s (g k x)) m l B)
 |[],_,_,_,h,_=>h
 |x::l,m,A,B,h,a=>by
  simp only[XU];refine Zl9 l (m+1) (h.step (a 0 x rfl)) (λk y i=>?_);rw[show m+1+k=m+(k+1) by omega];exact a (k+1) y (by rw[U3];exact i)
theorem ZhE {α β:Type} {key:α->Int} {g:Nat->β->α×α}:∀(l:List β) (m:Nat) (A:List α),(XU (λk x s=>Zq4 key s (g k x)) m l A).length<=A.length+2*l.length
 |[],_,A=>by simp[XU]
 |x::l,m,A=>by
  simp only[XU];have d:=ZhE (key:=key) (g:=g) l (m+1) (Zq4 key A (g m x));have f:=Zx0 key A (g m x);rw[Uf];omega
variable {K:Int} {x:α}
theorem ZCg (H:k<Zad key K l) (h:l[k]?=some x):key x<K :=
 Zj7 key K l x (Ud (i:=k) (by rw[UB,Uc H];exact h))
theorem ZAg (q:ZcR key l) (h:l[Zad key K l]?=some x):K<=key x :=
 ZiT q x (Ud (i:=0) (by rw[Km,Kt];exact h))
theorem Zor {l:List Zj} {a b:Zj} (g:ZcR K7 l) (n:l.length<=1000000:=by omega):ZdJ l a b=some (Zu0 K7 l (a,b)):=by
 have m:=Zl0 K7 (K7 a) l;have low:∀(k:Nat) (x:Zj),k<Zad K7 (K7 a) l->l[k]?=some x->K7 x<K7 a:=λk x=>ZCg;have H:∀x:Zj,l[Zad K7 (K7 a) l]?=some x->K7 a<=K7 x:=λx=>ZAg g;have o:=Zn6 (k:=K7 a) g;have i:Zu0 K7 l (a,b)=if Zgl K7 (K7 a) l=true then l else l.take (Zad K7 (K7 a) l)++a::b::l.drop (Zad K7 (K7 a) l):=rfl;generalize Zad K7 (K7 a) l=p at m low H o i;unfold ZdJ;refine YC p (λk v=>v=((k:Int),())) _ rfl ?_ ?_
 ·rintro k _ j rfl
  have h:l[k]?=some (l[k]'(by omega)):=Ua _;have f:=low k _ j h;generalize l[k]'(by omega)=x at h f;simp only[ZcD,show(k:Int)<(l.length:Int)from by omega,Uk,Zv,h,Bq];rw[Uc f,Xd];exact .inl ⟨_,rfl,rfl⟩
 ·rintro _ rfl
  have L:List.take (l.length-p) (List.drop p l)=List.drop p l:=KO (by rw[US];omega);by_cases c:p<l.length
  ·have h:l[p]?=some (l[p]'c):=Ua _
   generalize l[p]'c=x at h;have f:=H x h;simp only[ZcD,show(p:Int)<(l.length:Int)from by omega,Uk,Zv,h,Bq];rw[QQ];by_cases e:K7 x=K7 a
   ·rw[Uc e,i,Uc (Zgb.2 (o.2 ⟨x,h,e⟩))]
   ·rw[Ue e,i,Ue (λq=>by
     obtain⟨y,d,E⟩:=o.1 (Zgb.1 q);rw[h]at d;injection d with d
     subst d;exact e E)]
    simp only[UG,show Int.toNat (0:Int)=0 from rfl,Nat.sub_zero,KL,Uq,L];rw[Ra,Ra,Zk (U7 _),Zk (by simp only[Uf,Ug,US];omega),Zk (by simp only[Ug,Uo];omega),Zk (by simp only[Uf,Ug,US,Uo,Uh];omega)];rfl
  ·simp only[ZcD,show ¬(p:Int)<(l.length:Int)from by omega,Uj]
   rw[i,Ue (λq=>by
     obtain ⟨y,d,E⟩:=o.1 (Zgb.1 q);have:=(Ub.1 d).1;omega)]
   simp only[UG,show Int.toNat (0:Int)=0 from rfl,Nat.sub_zero,KL,Uq,L];rw[Ra,Ra,Zk (U7 _),Zk (by simp only[Uf,Ug,US];omega),Zk (by simp only[Ug,Uo];omega),Zk (by simp only[Uf,Ug,US,Uo,Uh];omega)];rfl
def cpr (l:List Zf) (k:Nat) (c:Zf):Zj×Zj :=
  ((2*Gs c,(Wq ((ZgC l (k:Int)).rise+G2 c),Wq ((ZgC l (k:Int)).rise+G8 c),()),((0:Int),(0:Int),()),()),
   (2*Gs c+1,(Wq ((ZgC l (k:Int)).fall+G2 c),Wq ((ZgC l (k:Int)).fall+G8 c),()),((0:Int),(0:Int),()),()))
def ipr (l:List Zf) (k:Nat) (x:Zh):Zj×Zj :=
  ((2*Gj x,(Wq ((ZgC l (GQ x)).rise+K8 (Gt x)),Wq ((ZgC l (GQ x)).rise+Ga (Gt x)),()),x.2.2.2),
   (2*Gj x+1,(Wq ((ZgC l (GQ x)).rise+K8 (Gt x)),Wq ((ZgC l (GQ x)).rise+Ga (Gt x)),()),x.2.2.2))
variable (l:List Zf)
theorem ZB2 (k:Nat) (c:Zf):Ztg K7 (cpr l k c):=⟨Gs c,rfl,rfl⟩
theorem ZCc (k:Nat) (x:Zh):Ztg K7 (ipr l k x):=⟨Gj x,rfl,rfl⟩
variable {l:List Pl}
theorem Zld {s:Zo} (h:ZjN l s) (q:(Gb s)[k]?=some c):ZrJ (Gb s) (k:Int)/\0<=Gs c/\Gs c<(l.length:Int):=by
 have H:=(Ub.1 q).1;exact⟨Zuc h.1,ZfS.place h.1 (Ud q),h.2.1 c (Ud q)⟩
theorem Zpn {s:Zo} (h:ZjN l s) {x:Zh} (H:(GN s)[k]?=some x):ZrJ (Gb s) (GQ x)/\0<=Gj x/\Gj x<(l.length:Int):=by
 have e:=h.2.2.1 k x H;exact⟨Zuc h.1 e.2.2.2.1.1 (by have:=e.2.2.2.1.2;omega),e.1.1,by have:=e.1.2;omega⟩
variable {p:List Pl}
theorem ZlP {n:Int} {l:List Zh} (h:Zif p n drv l):l.length<=p.length:=by
 have:∀(k:Nat) (x:Zh),l[k]?=some x->(k:Int)<=Gj x:=by
  intro k;induction k with
  |zero=>intro x H;have:=(h 0 x H).1.1;omega
  |succ k I =>
   intro x H;have t:=(Ub.1 H).1;have i:l[k]?=some l[k]:=Ua (by omega);have d:=I _ i;have f:=(h (k+1) x H).2.2.1 l[k] (by omega) (by rw[Nat.add_sub_cancel];exact i);omega
 rcases KP l.length with a|a
 ·omega
 ·have i:l[l.length-1]?=some l[l.length-1]:=Ua (by omega)
  have d:=this _ _ i;have f:=(h _ _ i).1.2;omega
theorem Znr {s:Zo} (h:ZjN l s) (g:l.length<=100) (q:(Gb s)[k]?=some c):Zcw (Gb s) (k:Int)=some [(cpr (Gb s) k c).1,(cpr (Gb s) k c).2]:=by
 obtain⟨d,f,H⟩:=Zld h q;unfold Zcw;rw[Zv,q,Bq,Zhe d,Bq];refine(YW (v':=([(cpr (Gb s) k c).1],(1:Int),())) ?_).trans ((YW (v':=([(cpr (Gb s) k c).1,(cpr (Gb s) k c).2],(2:Int),())) ?_).trans (YF ?_))
 ·show Xq c (wvI (ZgC (Gb s) (k:Int))) [] 0=_
  unfold Xq;rw[Uc (by decide)];show(some (ZgC (Gb s) (k:Int)).rise).bind _=_;rw[Bq,Zk (by simp only[Uf,Ug];omega),QR (n:=2*Gs c),K2,QR (n:=2*Gs c)];rfl
 ·show Xq c (wvI (ZgC (Gb s) (k:Int))) [(cpr (Gb s) k c).1] 1=_
  unfold Xq;rw[Uc (by decide)];show(some (ZgC (Gb s) (k:Int)).fall).bind _=_;rw[Bq,Zk (by simp only[Uf,Ug];omega),QR (n:=2*Gs c),QR (n:=2*Gs c+1)];rfl
 ·show Xq c (wvI (ZgC (Gb s) (k:Int))) [(cpr (Gb s) k c).1,(cpr (Gb s) k c).2] 2=_
  unfold Xq;rw[Ue (by decide)]
theorem Zr0 {l:List Zj} (h:Len l) (n:Int):∃r,Vt l n=some (r,Zgl K7 n l):=by
 unfold Vt;rw[Y4 h (λx=>decide (K7 x=n)) (λx _=>rfl),Bq];have d:=Zwm (p:=λx=>decide (K7 x=n)) (l:=l);have f:=Vr (p:=λx=>decide (K7 x=n)) (l:=l);by_cases c:0<=ZaI (λx=>decide (K7 x=n)) l
 ·obtain⟨x,H,_⟩:=Zjv c d
  rw[Uc c,H,Bq];exact⟨x,by rw[show Zgl K7 n l=true from f.1 c]⟩
 ·rw[Ue c]
  refine ⟨((0:Int),((0:Int),(0:Int),()),((0:Int),(0:Int),()),()),?_⟩;rw[show Zgl K7 n l=false from by
   cases q:Zgl K7 n l with
   |false=>rfl
   | true=>exact absurd (f.2 q) c]
noncomputable def ZqK (s:Zo):List Zj:=XU (λk x a=>Zq4 K7 a (cpr (Gb s) k x)) 0 (Gb s) []
noncomputable def ZCB (s:Zo):List Zj:=XU (λk x a=>Zq4 K7 a (ipr (Gb s) k x)) 0 (GN s) (ZqK s)
noncomputable def Zve (s:Zo):List Zj:=XU (λk x a=>Zu0 K7 a (cpr (Gb s) k x)) 0 (Gb s) []
noncomputable def ZqL (s:Zo):List Zj:=XU (λk x a=>Zu0 K7 a (ipr (Gb s) k x)) 0 (GN s) (Zve s)
theorem ZCr (n:Nat):Ziv K7 (XU (λk x a=>Zq4 K7 a (cpr (Gb s) k x)) 0 ((Gb s).take n) []) (XU (λk x a=>Zu0 K7 a (cpr (Gb s) k x)) 0 ((Gb s).take n) []) :=
 Zl9 (g:=λk x=>cpr (Gb s) k x) _ 0 (Ziv.nil _) (λk x _=>ZB2 _ _ _)
theorem ZCs:Ziv K7 (ZqK s) (Zve s):=by
 have:=ZCr s (Gb s).length;rw[Ur]at this;exact this
theorem ZCt (n:Nat):Ziv K7 (XU (λk x a=>Zq4 K7 a (ipr (Gb s) k x)) 0 ((GN s).take n) (ZqK s)) (XU (λk x a=>Zu0 K7 a (ipr (Gb s) k x)) 0 ((GN s).take n) (Zve s)) :=
 Zl9 (g:=λk x=>ipr (Gb s) k x) _ 0 (ZCs s) (λk x _=>ZCc _ _ _)
theorem Zxi:Ziv K7 (ZCB s) (ZqL s):=by
 have:=ZCt s (GN s).length;rw[Ur]at this;exact this
variable {s:Zo}
theorem len1 (h:ZjN l s) (n:Nat):(XU (λk x a=>Zq4 K7 a (cpr (Gb s) k x)) 0 ((Gb s).take n) []).length<=12:=by
 have:=ZhE (key:=K7) (g:=λk x=>cpr (Gb s) k x) ((Gb s).take n) 0 [];rw[Uo,Ug]at this;have:=h.1.1;omega
theorem ZE2 (h:ZjN l s):(ZqK s).length<=12:=by
 have:=len1 h (Gb s).length;rw[Ur]at this;exact this
theorem len2 (h:ZjN l s) (H:l.length<=100) (n:Nat):(XU (λk x a=>Zq4 K7 a (ipr (Gb s) k x)) 0 ((GN s).take n) (ZqK s)).length<=212:=by
 have:=ZhE (key:=K7) (g:=λk x=>ipr (Gb s) k x) ((GN s).take n) 0 (ZqK s);rw[Uo]at this;have:=ZlP h.2.2.1;have:=ZE2 h;omega
theorem Zq5 {A:List Zj} {q:Zj×Zj} {r:Bool} {v:Int} (F:r=Zgl K7 (K7 q.1) A) (h:A.length<=1000000:=by omega):(if r=true then some (Sum.inl (Wq (v+1),A,()))else Zw ((A.length+[q.1,q.2].length)*40<=140737488355328) (some (.inl (Wq (v+1),A++[q.1,q.2],()))):Option ((Int×List Zj×Unit)⊕List Zj))=some (.inl (Wq (v+1),Zq4 K7 A q,())):=by
 subst F;unfold Zq4;by_cases c:Zgl K7 (K7 q.1) A=true
 ·rw[Uc c,Uc c]
 ·rw[Ue c,Ue c,Zk (by simp only[Uf,Ug];omega)]
theorem Zhr (h:ZjN p s) (g:p.length<=100:=by omega):ZcX s=some (ZqL s):=by
 have w:=ZlP h.2.2.1;have G:=h.1.1;unfold ZcX;refine Zbl (l:=Gb s) (by unfold Len;omega) (λa i=>(i,a,())) (f:=λk x a=>Zq4 K7 a (cpr (Gb s) k x)) (s0:=[]) (λ_ _=>True) trivial (λk c A m _ H=>⟨?_,trivial⟩) (λA _ H=>?_)
 ·have o:=(Ub.1 m).1
  have b:A.length<=12:=by rw[H];exact len1 h k
  obtain⟨r,F⟩:=Zr0 (l:=A) (by unfold Len;omega) (K7 (cpr (Gb s) k c).1);show VT s (k:Int) A=_;unfold VT;rw[QP,Znr h g m,Bq];show(Vt A (K7 (cpr (Gb s) k c).1)).bind _=_;rw[F,Bq];exact Zq5 (q:=cpr (Gb s) k c) rfl
 ·have e:A=ZqK s:=H
  subst e;show VT s ((Gb s).length:Int) (ZqK s)=_;unfold VT;rw[Ue (Ui _)];refine Zbl (l:=GN s) (by unfold Len;omega) (λa i=>(i,a,())) (f:=λk x a=>Zq4 K7 a (ipr (Gb s) k x)) (s0:=ZqK s) (λ_ _=>True) trivial (λk x A d _ H=>⟨?_,trivial⟩) (λA _ H=>?_)
  ·have o:=(Ub.1 d).1
   have b:A.length<=212:=by rw[H];exact len2 h g k
   obtain⟨w1,w2,w3⟩:=Zpn h d;obtain⟨r,F⟩:=Zr0 (l:=A) (by unfold Len;omega) (K7 (ipr (Gb s) k x).1);show VR s (k:Int) A=_;unfold VR;rw[QP,Zv,d,Bq,Zhe w1,Bq];show(some (ZgC (Gb s) (GQ x)).rise).bind _=_;rw[Bq,QR (n:=2*Gj x),QR (n:=2*Gj x+1),Int.add_comm (K8 (Gt x)),Int.add_comm (Ga (Gt x))];show(some (ipr (Gb s) k x).1).bind _=_;rw[Bq];show(Vt A (K7 (ipr (Gb s) k x).1)).bind _=_;rw[F,Bq];have:=Zq5 (A:=A) (q:=ipr (Gb s) k x) (v:=(k:Int)) rfl;by_cases c:Zgl K7 (K7 (ipr (Gb s) k x).1) A=true
   ·rw[Uc c]at this ⊢
    injection this with this
    injection this with this
    exact Ka (λz=>some (Sum.inl z)) this
   ·rw[Ue c]at this ⊢
    rw[Zk (by simp only[Uf,Ug];omega)]at this;rw[Zk (by simp only[Uf,Ug];omega)];injection this with this
    injection this with this
    exact Ka (λz=>some (Sum.inl z)) this
  ·have e:A=ZCB s:=H
   subst e;show VR s ((GN s).length:Int) (ZCB s)=_;unfold VR;rw[Ue (Ui _)];have b:=len2 h g (GN s).length;rw[Ur]at b;have j:=Zxi s;rw[(Zpp (key:=λx=>K7 x)).2 ⟨j.perm,j.inc,by have:(ZCB s).length<=212:=b;omega⟩];rfl
theorem Zot (h:ZjN p s) (g:p.length<=100:=by omega):ZeJ s=some (ZqL s):=by
 have w:=ZlP h.2.2.1;have G:=h.1.1;unfold ZeJ;refine Zbl (l:=Gb s) (by unfold Len;omega) (λa i=>(a,i,())) (f:=λk x a=>Zu0 K7 a (cpr (Gb s) k x)) (s0:=[]) (λ_ _=>True) trivial (λk c B q _ j=>⟨?_,trivial⟩) (λB _ j=>?_)
 ·have d:=(Ub.1 q).1
  have H:=ZCr s k;rw[<-j]at H;have m:=H.len;have R:=len1 h k;obtain⟨w1,w2,w3⟩:=Zld h q;show VB s B (k:Int)=_;unfold VB;rw[QP,Zv,q,Bq,Zh9 w1,Bq,QR (n:=2*Gs c),QR (n:=2*Gs c+1)];show(ZdJ B (cpr (Gb s) k c).1 (cpr (Gb s) k c).2).bind _=_;rw[Zor H.inc];rfl
 ·have e:B=Zve s:=j
  subst e;show VB s (Zve s) ((Gb s).length:Int)=_;unfold VB;rw[Ue (Ui _)];refine Zbl (l:=GN s) (by unfold Len;omega) (λa i=>(a,i,())) (f:=λk x a=>Zu0 K7 a (ipr (Gb s) k x)) (s0:=Zve s) (λ_ _=>True) trivial (λk x B b _ j=>⟨?_,trivial⟩) (λB _ j=>?_)
  ·have d:=(Ub.1 b).1
   have H:=ZCt s k;rw[<-j]at H;have m:=H.len;have R:=len2 h g k;obtain⟨w1,w2,w3⟩:=Zpn h b;show VA s B (k:Int)=_;unfold VA;rw[QP,Zv,b,Bq,Zh9 w1,Bq,QR (n:=2*Gj x),QR (n:=2*Gj x+1)];show(ZdJ B (ipr (Gb s) k x).1 (ipr (Gb s) k x).2).bind _=_;rw[Zor H.inc];rfl
  ·have e:B=ZqL s:=j
   subst e;show VA s (ZqL s) ((GN s).length:Int)=_;unfold VA;rw[Ue (Ui _)]
theorem ZiW {α β:Type} {key:α->Int} {g:Nat->β->α×α}:∀(l:List β) (m:Nat) (B:List α) (x:α),x∈XU (λk y a=>Zu0 key a (g k y)) m l B->x∈B\/∃k y,l[k]?=some y/\(x=(g (m+k) y).1\/x=(g (m+k) y).2)
 |[],_,_,_,h=>.inl h
 |y::l,m,B,x,h=>by
  simp only[XU]at h;rcases ZiW l (m+1) _ x h with h|⟨k,z,T,h⟩
  ·unfold Zu0 at h
   split at h
   ·exact .inl h
   ·rcases ZdL.1 h with h|h|h
    ·exact .inr ⟨0,y,rfl,.inl h⟩
    ·exact .inr ⟨0,y,rfl,.inr h⟩
    ·exact .inl h
  ·rw[show m+1+k=m+(k+1) by omega]at h
   exact .inr ⟨k+1,z,by rw[U3];exact T,h⟩
theorem Zsq {l:List Zf} (h:ZfS l) (q:c∈l):0<=G2 c/\G2 c<=G8 c/\G8 c<=100000/\0<=Ht c/\Ht c<=100000:=by
 obtain⟨k,H⟩:=UA.1 q;have d:=h.2.1 k c (by have:=(Ub.1 H).1;omega) H;unfold Zgi ZiV at d;simp only[Up,Ul,QD]at d;omega
theorem ZAP {r a b:Int} (k:0<=r) (d:r<=100000) (f:-100000<=a) (g:a<=b) (i:b<=100000):ZaH (Wq (r+a),Wq (r+b),()):=by
 rw[QR (n:=r+a),QR (n:=r+b)];show(-1000000000<=r+a/\r+a<=1000000000)/\(-1000000000<=r+b/\r+b<=1000000000)/\r+a<=r+b;omega
theorem src_ok (h:ZjN p s) {x:Zj} (l:x∈ZqL s):(0<=K7 x/\K7 x<=2*(p.length:Int)-1)/\ZaH (GR x)/\ZcT (GZ x):=by
 rcases ZiW _ _ _ _ l with l|⟨k,e,b,l⟩
 ·rcases ZiW _ _ _ _ l with l|⟨k,c,q,l⟩
  ·cases l
  ·have d:=(Ub.1 q).1
   obtain⟨_,w2,w3⟩:=Zld h q;have w:=ZGp h.1 (k:=(k:Int));have w4:=w.p2;have w5:=w.r1;have w6:=w.r2;have w7:=w.f1;have w8:=w.f2;obtain⟨p1,p2,P,_⟩:=Zsq h.1 (Ud q);have T:ZcT (((0:Int),(0:Int),()):Zz):=by
    show(0:Int)<=0/\(0:Int)<=0/\(0:Int)<=1000000;omega
   rw[Uw]at l;rcases l with rfl|rfl
   ·refine⟨?_,ZAP w5 (by omega) (by omega) p2 P,T⟩
    show 0<=2*Gs c/\2*Gs c<=_;omega
   ·refine⟨?_,ZAP w7 (by omega) (by omega) p2 P,T⟩
    show 0<=2*Gs c+1/\2*Gs c+1<=_;omega
 ·obtain⟨e1,_,_,E,g,a,_⟩:=h.2.2.1 k e b
  have w:=ZGp h.1 (k:=GQ e) E.1;have w4:=w.p2;have w5:=w.r1;have w6:=w.r2;have H:=ZAP w5 (show(ZgC (Gb s) (GQ e)).rise<=100000 by omega) g.2.1 g.1 g.2.2;rcases l with rfl|rfl
  ·refine⟨?_,H,a⟩
   show 0<=2*Gj e/\2*Gj e<=_;omega
  ·refine⟨?_,H,a⟩
   show 0<=2*Gj e+1/\2*Gj e+1<=_;omega
theorem ZAi {l:List α} (h:ZcR key l) {y:α} (H:l[k]?=some x) (a:0<k) (i:l[k-1]?=some y):key y<key x:=by
 obtain⟨d,rfl⟩:=Ub.1 H;obtain⟨f,rfl⟩:=Ub.1 i;exact(List.pairwise_iff_getElem.1 h) _ _ f d (by omega)
theorem ZAQ (h:ZjN p s):ZeM (ZqL s) (Zc7 (2*(p.length:Int)) (ZqL s)):=λk x l=>by
 obtain⟨d,f,g⟩:=src_ok h (Ud l);exact⟨d,λy H i=>ZAi (Zxi s).inc l H i,f,g⟩
theorem Zy6 (h:ZjN l s) (g:l.length<=100:=by omega):(ZqL s).length<=1000:=by
 have q:=len2 h g (GN s).length;rw[Ur]at q;have:=(Zxi s).len;have:(ZCB s).length<=212:=q;omega
structure ZBT (b:Zc) (s:Zo) (x:ZA) (v:ZG) (t:Zr):Prop where
 set:Znj b s
 blk:Xh b
 cor:Vd x
 view:VOk b v
 new:Vx b=some v
 is:Is b x (ZqW b) (ZqL s) t
 prop:Qa b x (ZqW b) (ZqL s)=some (t,0)
variable (s:Zo) (c:Int)
theorem Zxl (k:sm Xi b) (z:sm Zc4 s) :
  (∃x v t,ZBT b s x v t/\atI (GV s) c=some x/\Zb4 b s c=some (some ((v,XG b (ZqW b),()),x,ZqL s,t,()),0)/\VP b s c=some (t,0))\/
  (∃code:Int,code≠0/\Zb4 b s c=some (none,code)/\VP b s c=some (noT,code)):=by
 unfold Zb4 VP;rw[ZiH b s k z,Zol b s k z,Bq,Bq];by_cases H:Znj b s;rotate_left
 ·rw[Ue (λq=>H ((Xf _).1 q)),Ue (λq=>H ((Xf _).1 q))]
  exact .inr ⟨1,by decide,rfl,rfl⟩
 have h:Xh b:=⟨H.1,k⟩;have K:=YT H.1.1.few;have W:Zhk (GV s):=H.2.2.2.2.2.2.2;have N:=W.1;rw[Uc (ZR H),Uc (ZR H),show QL (GV s)=some ((GV s).length:Int)from rfl,Bq,QR (n:=((GV s).length:Int)-1),Qs,QT,Bq,Bq];by_cases m:0<=c/\c<=((GV s).length:Int)-1;rotate_left
 ·rw[Ue (λq=>m ((Xf _).1 q)),Ue (λq=>m ((Xf _).1 q))]
  exact .inr ⟨4,by decide,rfl,rfl⟩
 obtain⟨x,M,I⟩:=Zjv (l:=GV s) m.1;have y:Vd x:=W.2.1 x (Ud I);have C:sm Qf x:=z.2.2.2.2.1.2 x (Ud I);obtain⟨v,e,a⟩:=ZxM h;have u:=Zx5 h;have o:Zmz ((Zm b).length:Int) (ZqW b):=Zyf _ _;have g:(ZqW b).length<=1048576:=by
  have A:=Zye (Zm b).length (ZjO b);have F:=Y2 h;exact Kg A (by omega)
 have d:=Zy6 H.2;have d:(ZqL s).length<=1048576:=by omega
 have j:=ZAQ H.2;have G:Znh b x (ZqW b) (ZqL s):=⟨h,y,o,j,u⟩;obtain⟨r,e1,E,L⟩:=ZAA b x (ZqW b) (ZqL s) k C g d;have D:VL b x (ZqW b) (ZqL s) none=some (some (v,XG b (ZqW b),()),(ZaC b (ZqW b)).1,0):=by
  unfold VL;rw[ZbX b k,Bq,Uc (ZR H.1),ZfC x,Bq,Uc (ZR y),e,Bq,Uc (by rfl),ZnT h a g,Bq,Uc (ZR o),ZgQ h v a.ZB _ d,Bq,Uc (ZR j),ZlL h a g o,Bq,Znb h a,Bq,Uc u]
 have i:=e1;unfold Qa at i;rw[D,Bq,Uc rfl,Bq] at i;obtain ⟨p,w,i⟩:=KH.1 i;have w:Qd (v,XG b (ZqW b),()) x (ZqL s) (ZaC b (ZqW b)).1=some p:=w;rw[Uc (ZR m),Uc (ZR m),M,e,Bq,Bq,Bq,ZkN h a,Bq,ZlL h a g o,Bq,Zhr H.2,Bq,Znb h a,Bq,Uc u,w,Bq,
  ZqH h,Bq,Zot H.2,Bq,E,Bq]
 cases B:p.2 with
 |true =>
  rw[Uc B]at i;injection i with i
  subst i;rcases L with⟨_,J⟩|⟨_,F,_⟩
  ·exact .inl ⟨x,v,p.1,⟨H,h,y,a,e,J,e1⟩,rfl,rfl,rfl⟩
  ·rename_i A f
   rcases f with⟨f,_⟩|⟨_,f,_⟩
   ·cases f
   ·exact absurd G f
 |false =>
  rw[Ue (by rw[B];decide)]at i;injection i with i
  subst i;exact .inr ⟨3,by decide,rfl,rfl⟩
theorem ZrV (h:sm Xi b) (a:sm Zc4 s) :
  ∃q:Zr×Int,Zbe b s c=some q/\VP b s c=some q/\((q.2=0/\∃x v,ZBT b s x v q.1/\atI (GV s) c=some x)\/(q.2≠0/\q.1=noT)):=by
 unfold Zbe;rcases Zxl b s c h a with⟨x,v,t,H,l,e1,f⟩|⟨code,y,e1,f⟩
 ·rw[e1,f,Bq,Uc rfl,Bq]
  exact⟨_,rfl,rfl,.inl ⟨rfl,x,v,H,l⟩⟩
 ·rw[e1,f,Bq,Ue y]
  exact⟨_,rfl,rfl,.inr ⟨y,rfl⟩⟩
theorem ZiP {a b:List Zz} (d:a.length=b.length) (X:a.length<=1000:=by omega):ZcY a b=some (tr (a=b)):=by
 unfold ZcY;rw[QP,QF (l:=a) (show Len a by unfold Len;omega) (λk x=>b[k]?=some x) (bad:=false) (good:=true) (step:=λv=>Qe a b v.1)
  (λk x H c _=>by
   have i:b[k]?=some (b[k]'(by omega)):=Ua _;generalize b[k]'(by omega)=y at i;show(_->Qe a b (k:Int)=_)/\(_->Qe a b (k:Int)=_);unfold Qe;rw[QP,Zv,Zv,H,i,Bq,Bq];have e:(decide (K8 x=K8 y)&&decide (Ga x=Ga y))=eqS x y:=rfl;rw[e];constructor
   ·intro q
    injection q with q
    rw[Uc (Zv9.2 q.symm)]
   ·intro q
    rw[Ue (λz=>q (by rw[Zv9.1 z]))])
  (λ_=>by
   show Qe a b (a.length:Int)=_;unfold Qe;rw[Ue (Ui _)]),Zhz]
 congr 1;refine tr_same ⟨λh=>?_,λh=>by subst h;exact λk x H=>H⟩;apply UI;intro k;by_cases c:k<a.length
 ·have H:a[k]?=some (a[k]'c):=Ua _
  rw[H,h k _ H]
 ·rw[Uv (by omega),Uv (by omega)]
where
 tr_same {p q:Prop} (h:p<->q):tr p=tr q:=by
  by_cases z:q
  ·rw[ZR z,ZR (h.2 z)]
  ·rw[ZT z,ZT (λy=>z (h.1 y))]
theorem ZFY {t t':Zr} {n:Nat} (r:Zji n t) (H:Zji n t') (X:n<=1000:=by omega):Zd9 t t'=some (tr (t=t')):=by
 have j:=r.lr;have m:=r.la;have o:=r.ls;have g:=H.lr;have G:=H.la;have s:=H.ls;unfold Zd9;rw[QP,ZiP (by omega),Bq];by_cases Q:GL t=GL t';rotate_left
 ·rw[Ue (λz=>Q ((Xf _).1 z)),ZT (λz=>Q (by rw[z]))]
 rw[Uc (ZR Q),ZiP (by omega),Bq];by_cases e:GF t=GF t';rotate_left
 ·rw[Ue (λz=>e ((Xf _).1 z)),ZT (λz=>e (by rw[z]))]
 rw[Uc (ZR e),QF (l:=Gd t) (show Len (Gd t) by unfold Len;omega) (λk x=>(Gd t')[k]?=some x) (bad:=false) (good:=true) (step:=λv=>Qu t t' v.1)
  (λk x d f _=>by
   have i:(Gd t')[k]?=some ((Gd t')[k]'(by omega)):=Ua _;generalize (Gd t')[k]'(by omega)=y at i;show(_->Qu t t' (k:Int)=_)/\(_->Qu t t' (k:Int)=_);unfold Qu;rw[QP,Zv,Zv,d,i,Bq,Bq];constructor
   ·intro q
    injection q with q
    rw[Uc (by rw[q];exact beq_self_eq_true _)]
   ·intro q
    rw[Ue (λz=>q (by rw[eq_of_beq z]))])
  (λ_=>by
   show Qu t t' ((Gd t).length:Int)=_;unfold Qu;rw[Ue (Ui _)]),Zhz]
 congr 1;refine ZiP.tr_same ⟨λh=>?_,λh=>by subst h;exact λk x d=>d⟩;have e1:Gd t=Gd t':=by
  apply UI;intro k;by_cases f:k<(Gd t).length
  ·have d:(Gd t)[k]?=some ((Gd t)[k]'f):=Ua _
   rw[d,h k _ d]
  ·rw[Uv (by omega),Uv (by omega)]
 obtain⟨a,b,c,⟨⟩⟩:=t;obtain⟨A,U,L,⟨⟩⟩:=t';have e1:a=A:=e1;have Q:b=U:=Q;have e:c=L:=e;rw[e1,Q,e]
variable {s:Zd}
theorem Zq8 (q:Src s) (st:Int):YM (Zbg s st) (λr=>(1<=r.1.length/\r.1.length<=3)/\Src r.2):=by
 unfold Zbg;refine(ZE q st).bind λR ⟨_,k⟩=>?_;refine(ZE k 3).bind λr1 ⟨⟨a,b⟩,d⟩=>?_;have e:Wq (1+r1.1)=1+r1.1:=QR;rw[e];refine YM.loop (λv=>0<=v.2.2.1/\(v.1.length:Int)+v.2.2.1=1+r1.1/\Src (v.2.2.2.1,v.2.2.2.2.1,v.2.2.2.2.2.1,())) (λv=>v.2.2.1.toNat) ⟨by dsimp only;omega,by dsimp only[List.length_nil];omega,d⟩ ?_;rintro⟨out,t,n,c0,c1,c2,⟨⟩⟩ ⟨i1,p,j⟩;dsimp only at i1 p j;show YM (Zbu st out t n c0 c1 c2) _;unfold Zbu;have c:Wq (n-1)=n-1:=QR;rw[c];split
 ·refine .guard (by simp only[Uf,Ug];omega) ?_
  refine(ZE j st).bind λr ⟨_,f⟩=>?_;refine .ret ⟨⟨by dsimp only;omega,by dsimp only;simp only[Uh,Uf,Ug];omega,f⟩,by dsimp only;omega⟩
 ·exact .ret ⟨⟨by dsimp only;omega,by dsimp only;omega⟩,j⟩
theorem ZAz {a b:Nat} (n:1<=a/\a<=3) (h:1<=b/\b<=3):(b:Int)<=(a:Int)*(b:Int)/\(a:Int)*(b:Int)<=9:=by
 have:a=1\/a=2\/a=3:=by omega
 rcases this with rfl|rfl|rfl<;>omega
theorem ZpH (H:Src s) (base:Int):YM (Zft s base) (λr=>sm Zbi r.1/\Src r.2):=by
 unfold Zft;refine(Zq8 H 60).bind λd ⟨a,k⟩=>?_;refine(Zq8 k 40).bind λr1 ⟨b,h⟩=>?_;obtain⟨p1,p2⟩:=ZAz a b;refine YM.loop (λv=>0<=v.2.1/\v.2.1<=9/\(v.1.length:Int)=v.2.1/\Src (v.2.2.1,v.2.2.2.1,v.2.2.2.2.1,())) (λv=>(9-v.2.1).toNat) ⟨by dsimp only;omega,by dsimp only;omega,by dsimp only[List.length_nil];omega,h⟩ ?_;rintro⟨out,i,c0,c1,c2,⟨⟩⟩ ⟨I,i1,p,j⟩;dsimp only at I i1 p j;show YM (Zep base d r1 out i c0 c1 c2) _;unfold Zep;have E:Wq ((d.1.length:Int)*(r1.1.length:Int))=(d.1.length:Int)*(r1.1.length:Int):=QR;have e1:Wq (i+1)=i+1:=QR;have f:Wq (i-1)=i-1:=QR;have e:Wq (i-(r1.1.length:Int))=i-(r1.1.length:Int):=QR;rw[E,e1,f,e];split
 ·rename_i m
  have n:∀(x:Int) (t:Zd),Src t->YM (Zw ((List.length out+List.length [x])*(8:Nat)<=(140737488355328:Nat)) (some (.inl (out++[x],i+1,t.fst,t.snd.fst,t.snd.snd.fst,()):(List Int×Int×List Int×Int×Int×Unit)⊕(ZH×Zd))))
    (Rnd (λv:List Int×Int×List Int×Int×Int×Unit=>0<=v.2.1/\v.2.1<=9/\(v.1.length:Int)=v.2.1/\Src (v.2.2.1,v.2.2.2.1,v.2.2.2.2.1,())) (λv=>(9-v.2.1).toNat) (9-i).toNat (λr=>sm Zbi r.1/\Src r.2)):=λx t c =>
   .guard (by simp only[Uf,Ug];omega) (.ret ⟨⟨by dsimp only;omega,by dsimp only;omega,by dsimp only;simp only[Uh,Uf,Ug];omega,c⟩,by dsimp only;omega⟩)
  refine(ZE j 10).bind λr ⟨_,T⟩=>?_;refine .guard (by omega) ?_;split
  ·rename_i R
   have y:i≠0:=by
    intro q;rw[q,Int.zero_tmod]at R;omega
   refine .at (by omega) (by omega) λo _ _=>?_;refine(ZE T 20).bind λr2 ⟨_,g⟩=>?_;split
   ·refine .at (by omega) (by omega) λX _ _=>?_
    refine(ZE g 20).bind λl ⟨_,G⟩=>?_;exact n _ _ G
   ·exact n _ _ g
  ·split
   ·refine .at (by omega) (by omega) λX _ _=>?_
    refine(ZE T 20).bind λl ⟨_,G⟩=>?_;exact n _ _ G
   ·exact n _ _ T
 ·exact .ret ⟨⟨smI (by dsimp only;omega),smI (by dsimp only;omega),smI (by dsimp only;omega),trivial⟩,j⟩
theorem Zki (q:Src s) (base:Int):YM (VG s base) (λr=>sm (.sl Zbi) r.1/\Src r.2):=by
 unfold VG;refine(ZpH q base).bind λR ⟨a,k⟩=>?_;refine(ZpH k base).bind λr1 ⟨b,d⟩=>?_;refine .ret ⟨smL (by dsimp only[List.length_cons,List.length_nil];omega) (λx l=>?_),d⟩;rcases Us.1 l with rfl|l
 ·exact a
 ·rw[Ut]at l
  rw[l];exact b
theorem Zkp (q:Src s) (k f t e:Int):YM (Vz s k f t e) (λr=>sm Zow r.1/\Src r.2):=by
 unfold Vz;split
 ·refine(ZE q 10).bind λR ⟨_,h⟩=>?_
  refine(Zki h _).bind λr1 ⟨a,d⟩=>?_;exact .ret ⟨⟨trivial,trivial,trivial,trivial,a,smL (by simp) (by simp),trivial⟩,d⟩
 ·refine(ZE q 20).bind λR ⟨_,h⟩=>?_
  refine(Zki h _).bind λr1 ⟨a,d⟩=>?_;refine(Zki d _).bind λr2 ⟨b,H⟩=>?_;exact .ret ⟨⟨trivial,trivial,trivial,trivial,a,b,trivial⟩,H⟩
variable {c:Zq} {pin:Int}
theorem ZhA {b:Int} (u:(0:Int)<=IntKind.wrap IntKind.u64 pin) (h:Wq ((1:Int)*(2:Int)^Min.min (Int.toNat (IntKind.wrap IntKind.u64 pin)) (IntKind.bits IntKind.i64))=b) (d:(Gw c).length<=8) (b0:0<=b) (N:b<=8)
  (H:∀i:Int,0<=i->i<((Gw c).length:Int)->Go.bits Go.BinOp.and IntKind.i64 i b=0->i+b<((Gw c).length:Int)):YM (Zet c pin) (λ_=>True):=by
 unfold Zet;refine .guard u ?_;refine YM.loop (λv=>0<=v.2.2.1/\v.2.2.1<=8) (λv=>(8-v.2.2.1).toNat) ⟨by dsimp only;omega,by dsimp only;omega⟩ ?_;rintro⟨R,o,i,⟨⟩⟩ ⟨I,i1⟩;dsimp only at I i1;show YM (Zdx c pin R o i) _;unfold Zdx;have e1:Wq (i+1)=i+1:=QR;have f:Wq (i+b)=i+b:=QR;simp only[h,e1,f];split
 ·rename_i a
  have n:∀r l:Bool,YM (some (.inl (r,l,i+1,()):(Bool×Bool×Int×Unit)⊕Int)) (Rnd (λv:Bool×Bool×Int×Unit=>0<=v.2.2.1/\v.2.2.1<=8) (λv=>(8-v.2.2.1).toNat) (8-i).toNat (λ_=>True)):=λr l =>
   .ret ⟨⟨by dsimp only;omega,by dsimp only;omega⟩,by dsimp only;omega⟩
  split
  ·rename_i T
   have t:=H i I a T;repeat' first
    |exact n _ _
    |split
    |refine YM.at (by omega) (by omega) λ_ _ _=>?_
  ·exact n _ _
 ·repeat' first
   |exact YM.ret (show Rnd _ _ _ (λ_=>True) (.inr _)from trivial)
   |split
theorem eight (k:0<=i) (d:i<8:=by omega):i=0\/i=1\/i=2\/i=3\/i=4\/i=5\/i=6\/i=7:=by omega
theorem Zu8 (h:((Gw c).length=2/\pin=0)\/((Gw c).length=4/\(pin=0\/pin=1))\/((Gw c).length=8/\(pin=0\/pin=1\/pin=2))):YM (Zet c pin) (λ_=>True):=by
 have k0:∀L:Int,(L=2\/L=4\/L=8)->∀i:Int,0<=i->i<L->Go.bits Go.BinOp.and IntKind.i64 i 1=0->i+1<L:=by
  intro L n i k d T;rcases eight k with rfl|rfl|rfl|rfl|rfl|rfl|rfl|rfl<;>first|omega|exact absurd T (by decide)
 have k1:∀L:Int,(L=4\/L=8)->∀i:Int,0<=i->i<L->Go.bits Go.BinOp.and IntKind.i64 i 2=0->i+2<L:=by
  intro L n i k d T;rcases eight k with rfl|rfl|rfl|rfl|rfl|rfl|rfl|rfl<;>first|omega|exact absurd T (by decide)
 have K:∀L:Int,L=8->∀i:Int,0<=i->i<L->Go.bits Go.BinOp.and IntKind.i64 i 4=0->i+4<L:=by
  intro L n i k d T;rcases eight k with rfl|rfl|rfl|rfl|rfl|rfl|rfl|rfl<;>first|omega|exact absurd T (by decide)
 rcases h with⟨q,rfl⟩|⟨q,rfl|rfl⟩|⟨q,rfl|rfl|rfl⟩
 ·exact ZhA (b:=1) (by decide) (by decide) (by omega) (by omega) (by omega) (k0 _ (by omega))
 ·exact ZhA (b:=1) (by decide) (by decide) (by omega) (by omega) (by omega) (k0 _ (by omega))
 ·exact ZhA (b:=2) (by decide) (by decide) (by omega) (by omega) (by omega) (k1 _ (by omega))
 ·exact ZhA (b:=1) (by decide) (by decide) (by omega) (by omega) (by omega) (k0 _ (by omega))
 ·exact ZhA (b:=2) (by decide) (by decide) (by omega) (by omega) (by omega) (k1 _ (by omega))
 ·exact ZhA (b:=4) (by decide) (by decide) (by omega) (by omega) (by omega) (K _ (by omega))
variable {m:List UInt8}
theorem ZiF (q:Src s) (X:m.length<=5) {tr:List Int} (o:tr.length=2\/tr.length=4\/tr.length=8):YM (ZaM s m tr) (λr=>sm ZgA r.1/\Src r.2):=by
 unfold ZaM;refine(ZE q 50).bind λd ⟨_,k⟩=>?_;refine(ZE k 80).bind λr1 ⟨_,h⟩=>?_;refine YM.loop (λv=>((v.1.length=0/\v.2.1=1)\/(v.1.length=1/\v.2.1=2)\/(v.1.length=2/\v.2.1=4)\/(v.1.length=3/\v.2.1=8))/\v.2.1<=(tr.length:Int)/\(∀x∈v.1,sm ZqP x)/\Src (v.2.2.1,v.2.2.2.1,v.2.2.2.2.1,())) (λv=>(8-v.2.1).toNat)
  ⟨.inl ⟨rfl,rfl⟩,by dsimp only;omega,λx l=>(by cases l),h⟩ ?_
 rintro⟨pins,n,c0,c1,c2,⟨⟩⟩ ⟨i1,i,j,T⟩;dsimp only at i1 i j T;show YM (Zer m tr d r1 pins n c0 c1 c2) _;unfold Zer;split
 ·rename_i t
  refine .at (by omega) (by simp only[Uf,Ug];omega) λx l _=>?_;have c:x.length<=1:=by
   simp only[Us,UR,Kd]at l;rcases l with rfl|rfl|rfl|rfl<;>exact UE _
  refine(ZE T 9).bind λr ⟨_,f⟩=>?_;have e1:Wq (2*n)=2*n:=QR;rw[e1];refine .guard (by simp only[Uf,Ug];omega) (.ret ⟨⟨?_,by dsimp only;omega,QE j ⟨smS (by(try dsimp only);omega),trivial,trivial,trivial,trivial⟩,f⟩,by dsimp only;omega⟩);dsimp only;simp only[Uh,Uf,Ug];omega
 ·refine .guard (by simp only[Uf,Ug];omega) ?_
  refine YM.loop (λv=>0<=v.2.1/\v.2.1<=3/\(v.1.length:Int)<=v.2.1/\(∀x∈v.1,sm Zow x)/\Src (v.2.2.1,v.2.2.2.1,v.2.2.2.2.1,())) (λv=>(3-v.2.1).toNat) ⟨by dsimp only;omega,by dsimp only;omega,by dsimp only[List.length_nil];omega,λx l=>(by cases l),T⟩ ?_;rintro⟨arcs,p,D,a,b,⟨⟩⟩ ⟨j0,e,u,w,J⟩;dsimp only at j0 e u w J;show YM (Zeq m tr d r1 pins arcs p D a b) _;unfold Zeq;have e1:Wq (p+1)=p+1:=QR;rw[e1];split
  ·rename_i g
   refine (Zu8 (by
    show (tr.length=2/\p=0)\/(tr.length=4/\(p=0\/p=1))\/(tr.length=8/\(p=0\/p=1\/p=2));omega)).bind λS _=>?_
   split
   ·exact .ret ⟨⟨by dsimp only;omega,by dsimp only;omega,by dsimp only;omega,w,J⟩,by dsimp only;omega⟩
   ·refine(Zkp J 1 p _ S).bind λr ⟨H,f⟩=>?_
    refine .guard (by simp only[Uf,Ug];omega) (.ret ⟨⟨by dsimp only;omega,by dsimp only;omega,?_,QE w H,f⟩,by dsimp only;omega⟩);dsimp only;simp only[Uh,Uf,Ug];omega
  ·refine .ret ⟨⟨smS (by(try dsimp only);omega),trivial,smL ?_ (QE j ⟨smS (by dsimp only[List.length_cons,List.length_nil];omega),trivial,trivial,trivial,trivial⟩),smL (by(try dsimp only);omega) w,smI (by(try dsimp only);omega),trivial,trivial,trivial⟩,J⟩
   (try dsimp only)
   simp only[Uh,Uf,Ug];omega
theorem Znz (u:Src s) (X:m.length<=5) (k e:Int):YM (JI s m k e) (λr=>sm ZgA r.1/\Src r.2):=by
 have g:∀a b:Int,sm (.sl ZqP) [([(100:UInt8)],(1:Int),a,Bool.false,()),([(99:UInt8),(107:UInt8)],(1:Int),b,Bool.true,()),([(113:UInt8)],(2:Int),(0:Int),Bool.false,())]:=λa b=>by
  refine smL (by(try dsimp only);simp only[Uf,Ug];omega) (λx l=>?_);simp only[Us,UR,Kd]at l;rcases l with rfl|rfl|rfl<;>exact⟨smS (by simp only[Uf,Ug];omega),trivial,trivial,trivial,trivial⟩
 unfold JI;refine(ZE u 50).bind λR ⟨_,H⟩=>?_;refine(ZE H 80).bind λr1 ⟨_,j⟩=>?_;refine(ZE j 9).bind λr2 ⟨_,n⟩=>?_;refine(ZE n 9).bind λw ⟨_,o⟩=>?_;refine(Zkp o e 1 2 0).bind λa0 ⟨T,p⟩=>?_;refine(Zkp p 4 1 0 0).bind λA ⟨d,q⟩=>?_;refine(Zkp q 5 1 0 0).bind λc ⟨f,G⟩=>?_;have h:∀x∈[a0.1,A.1,c.1],sm Zow x:=λx l=>by
  simp only[Us,UR,Kd]at l;rcases l with rfl|rfl|rfl
  ·exact T
  ·exact d
  ·exact f
 split
 ·refine(Zkp G 1 0 2 1).bind λv ⟨i,t⟩=>?_
  refine .guard (by simp only[Uf,Ug];omega) (.ret ⟨⟨smS (by(try dsimp only);omega),trivial,g _ _,smL (by(try dsimp only);simp only[Uh,Uf,Ug];omega) (QE h i),smI (by simp),trivial,trivial,trivial⟩,t⟩)
 ·exact .ret ⟨⟨smS (by(try dsimp only);omega),trivial,g _ _,smL (by(try dsimp only);simp only[Uf,Ug];omega) h,smI (by simp),trivial,trivial,trivial⟩,G⟩
theorem Zyy (q:Src s):YM (Zg4 s) (λr=>(sm VI r.1/\(Gh r.1).length=8)/\Src r.2):=by
 unfold Zg4;refine(ZiF q (by simp only[Uf,Ug];omega) (by simp)).bind λR ⟨T,k⟩=>?_;refine(ZiF k (by simp only[Uf,Ug];omega) (by simp)).bind λr1 ⟨a,d⟩=>?_;refine(ZiF d (by simp only[Uf,Ug];omega) (by simp)).bind λr2 ⟨b,f⟩=>?_;refine(ZiF f (by simp only[Uf,Ug];omega) (by simp)).bind λp ⟨c,g⟩=>?_;refine(ZiF g (by simp only[Uf,Ug];omega) (by simp)).bind λt ⟨e,i⟩=>?_;refine(Znz i (by simp only[Uf,Ug];omega) 2 2).bind λu ⟨m,j⟩=>?_;refine(Znz j (by simp only[Uf,Ug];omega) 2 3).bind λv ⟨n,G⟩=>?_;refine(Znz G (by simp only[Uf,Ug];omega) 3 2).bind λw ⟨o,h⟩=>?_;refine .ret ⟨⟨⟨smL (by(try dsimp only);simp only[Uf,Ug];omega) (λx l=>?_),trivial⟩,rfl⟩,h⟩;simp only[Us,UR,Kd]at l;rcases l with rfl|rfl|rfl|rfl|rfl|rfl|rfl|rfl<;>assumption
end Go.Proofs.YtjkccpcebpeadaaGreatDoor
